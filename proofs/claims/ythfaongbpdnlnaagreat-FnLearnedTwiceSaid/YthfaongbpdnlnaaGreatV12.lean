/- What is proved: steps of the loops over texts and their differences, in plain terms.
   Conditions: none beyond those that each lemma names. -/
import Derived.Test.YthfaongbpdnlnaaGreatT9
namespace Go.Proofs.YthfaongbpdnlnaaGreat.Ab
set_option maxHeartbeats 1000000
set_option maxRecDepth 512
set_option linter.unusedSimpArgs false
set_option linter.unusedVariables false
open Go.RowKit
section
variable {P:Program} {B:Nat→Prop} {W:En} {o:Oper} {st:St} {KE:V→List (Nat×Nat×Ob)→Prop}
def T.cst:T→Bool
 | .int _ _ | .bool _ | .str _ | .nil=>true
 | _=>false
theorem Rd.cst {w w':World} {B B':Nat→Prop} {x:T} {u:Value} (h:Rd P w B x u) (hf:x.cst=true):Rd P w' B' x u:=by
 cases h with
 | int h=>exact .int h
 | bool=>exact .bool
 | str h=>exact .str h
 | nil=>exact .nil
 | lst=>cases hf
theorem Rd.cst_ow {w w':World} {B F:Nat→Prop} {x:T} {u:Value} (h:Rd P w B x u) (hf:x.cst=true) (hF:∀ b,¬ F b):Ow P w' x u F:=by
 cases h with
 | int h=>exact .flat rfl (.int h) hF
 | bool=>exact .flat rfl .bool hF
 | str h=>exact .flat rfl (.str h) hF
 | nil=>exact .nil hF
 | lst=>cases hf
theorem cv_cst {w:World} {F:Nat→Nat→Prop} {ts:List T} {us:List Value} (hp:Pw (Rd P w (Free B W.o (look st.objs) F w)) ts us) (hf:∀ x ∈ ts,x.cst=true) (d:Bool):Cv P B W st w F ts us [] d :=
 ⟨hp.1,fun u hu=>by
  obtain ⟨k,hk,rfl⟩:=List.getElem_of_mem hu
  have hlt:k < ts.length:=by rw [← hp.1];exact hk
  exact (hp.2 k _ _ (List.getElem?_eq_getElem hlt) (List.getElem?_eq_getElem hk)).one,fun k x u hx hu=>(hp.2 k x u hx hu).mono (fun b hb=>.inl hb) fun _ _=>rfl,
  fun _=>⟨fun _ _=>False,fun k x u hx hu=>(hp.2 k x u hx hu).cst_ow (hf _ (List.mem_of_getElem? hx)) fun _ h=>h,fun _ _ h=>h.elim,fun _ _ _ _ h=>h.elim⟩,fun o e h=>(by cases h)⟩
def cstT:List V→Option (List T)
 | []=>some []
 | .t x :: r=>match x.cst with|true=>(match cstT r with|some ts=>some (x :: ts)|none=>none)|false=>none
 | _=>none
theorem Zoo:∀ {vs:List V} {ts:List T},cstT vs=some ts→vs=ts.map .t∧∀ x ∈ ts,x.cst=true
 | [],ts,h=>by cases h;exact ⟨rfl,fun _ h=>by cases h⟩
 | v :: r,ts,h=>by
  cases v with
  | t x =>
   simp only [cstT] at h
   split at h
   ·rename_i hf
    split at h
    ·rename_i ts' hr
     cases h
     obtain ⟨h1,h2⟩:=Zoo hr
     refine ⟨by rw [h1];rfl,fun y hy=>?_⟩
     rcases List.mem_cons.1 hy with rfl|hy
     ·exact hf
     ·exact h2 y hy
    ·cases h
   ·cases h
  | _=>cases h
theorem ZkI (z:Array Value) (n k:Nat) (hk:k < n) (hz:0 < z.size):(madeCells z n).toList[k]?=z.toList[k % z.size]?:=by
 have hlt:k % z.size < z.size:=Nat.mod_lt _ hz
 rw [Array.getElem?_toList,Array.getElem?_toList]
 simp [madeCells,hk,hlt]
theorem ZeL {α:Type} (l:List α) (m k:Nat) (hk:k < m * l.length):(List.replicate m l).flatten[k]?=l[k % l.length]?:=by
 have hp:0 < l.length:=by
  rcases Nat.eq_zero_or_pos l.length with h|h
  ·rw [h] at hk;simp at hk
  ·exact h
 have hu:∀ x ∈ List.replicate m l,x.length=l.length:=fun x hx=>by rw [List.eq_of_mem_replicate hx]
 have hi:k / l.length < m:=Nat.div_lt_of_lt_mul (by rw [Nat.mul_comm];exact hk)
 have h:=Zb0 hu (i:=k / l.length) (j:=k % l.length) (by simpa using hi) (Nat.mod_lt _ hp)
 rw [Nat.mul_comm,Nat.div_add_mod] at h
 rw [h]
 simp [List.getD_eq_getElem?_getD,hi]
theorem OpS.makeSlice {t:TypeId} {xl xc:Operand} {kl kc:IntKind} {l c:Int} {y ye:Ty} {e es eb site ep:Nat} {zs:List V} {tz:List T} {fl:Bool} (ho:o.op=.makeSlice t xl xc) (hd:o.dst=some site) (hl:st.ev xl=.t (.int kl l)) (hc:st.ev xc=.t (.int kc c)) (hy:Zac P t=some y) (hk:y.k=.slice e es eb) (hye:Zac P e=some ye) (hyb:ye.bytes=eb) (hz:ye.zero=some zs) (hzt:cstT zs=some tz) (hes:Nat.beq tz.length es=true) (hpos:Nat.beq es 0=false) (hfl:tz.all T.flat=fl)
  (hlc:0≤l∧l≤c∧(eb:Int) * c≤281474976710656∧c≤9223372036854775807) (hep:nep (look st.objs site)=ep) (hK:KE (.hnd site ep) [(site,ep,.row fl true e (List.replicate l.toNat tz))]):OpS P B W o st KE:=by
 obtain ⟨ht,hes',heb⟩:=ZaM hy hk
 obtain ⟨hzv,hzf⟩:=Zoo hzt
 have htl:tz.length=es:=Nat.eq_of_beq_eq_true hes
 have hpos:es ≠ 0:=Nat.ne_of_beq_eq_false hpos
 have hu:∀ x ∈ List.replicate l.toNat tz,x.length=P.cellsOf e:=fun x hx=>by rw [List.eq_of_mem_replicate hx,hes',htl]
 refine OpS.newrow (ks:=[]) hep (fun x e h=>by cases h) hu (fun hf x hx=>?_) hK fun a w pl F hs=>?_
 ·obtain ⟨q,hq,hx⟩:=List.mem_flatten.1 hx
  rw [List.eq_of_mem_replicate hq] at hx
  rw [← hfl] at hf
  exact List.all_eq_true.1 hf x hx
 obtain ⟨de,i,hue,hi,_,hsz,hby,hzero⟩:=Zaw hye
 have hsi:i.size=es:=by rw [← hes'];simp [Program.cellsOf,hi]
 have hbi:i.bytes=eb:=by rw [← hby,hyb]
 rw [hz] at hzero
 obtain ⟨z,hz1,hz2⟩:=Option.map_eq_some_iff.1 hzero.symm
 have hzs:z.cells.toList.length=es:=by rw [← htl,show tz.length=(tz.map V.t).length from (List.length_map _).symm,← hzv,← hz2];simp
 have hzs':z.cells.size=es:=by simpa using hzs
 have hpz:Pw (Rd P w (Free B W.o (look st.objs) F w)) tz z.cells.toList:=by
  refine ⟨by rw [hzs,htl],fun k x u hx hu=>?_⟩
  have h1:(z.cells.toList.map constV)[k]?=some (V.t x):=by rw [hz2,hzv,List.getElem?_map,hx];rfl
  rw [List.getElem?_map,hu] at h1
  have h2:constV u=V.t x:=by simpa using h1
  have h3:=ZeE (P:=P) (w:=w) (lk:=look st.objs) (pl:=pl) (Fr:=Free B W.o (look st.objs) F w) u
  rw [h2] at h3
  exact h3
 have hn:l.toNat≤c.toNat:=by omega
 have hle:l.toNat * es≤c.toNat * es:=Nat.mul_le_mul_right _ hn
 have htake:((madeCells z.cells (c.toNat * i.size)).toList.take (l.toNat * es))=(List.replicate l.toNat z.cells.toList).flatten:=by
  apply List.ext_getElem?
  intro k
  rw [List.getElem?_take]
  split
  ·rename_i hk
   rw [ZkI _ _ _ (by rw [hsi];omega) (by omega),ZeL _ _ _ (by rw [hzs];exact hk),hzs,hzs']
  ·rename_i hk
   symm
   rw [List.getElem?_eq_none]
   rw [ZaE (s:=es) (fun x hx=>by rw [List.eq_of_mem_replicate hx,hzs])]
   simpa using hk
 refine ⟨(List.replicate l.toNat z.cells.toList).flatten,.slice (some ⟨w.heap.size,0,none⟩) l.toNat c.toNat,w.alloc (.cells (madeCells z.cells (c.toNat * i.size)) e),?_,Zd2 w _,?_,fun b hb=>(by cases hb;simp),?_⟩
 ·unfold execOp
  rw [ho]
  refine Zap ?_
  rw [(hs.int_at hl).1,(hs.int_at hc).1]
  exact run_make w t e i z ht hi hz1 kl kc l c hlc.1 hlc.2.1 (by rw [hbi];exact hlc.2.2.1) hlc.2.2.2
 ·rw [List.length_replicate,hes']
  refine ⟨by rw [ZaE (s:=es) (fun x hx=>by rw [List.eq_of_mem_replicate hx,hzs])];simp,.inr ⟨w.heap.size,0,c.toNat,_,(0,0),rfl,heap_alloc_new w _,.inl rfl,hn,by simp only [maxLen];omega,by rw [size_madeCells,hsi];simp,by simpa using htake⟩⟩
 ·refine cv_cst ?_ (fun x hx=>?_) true
  ·refine ⟨?_,fun k x u hx hu=>?_⟩
   ·rw [ZaE (s:=es) (fun x hx=>by rw [List.eq_of_mem_replicate hx,hzs]),ZaE (s:=es) (fun x hx=>by rw [List.eq_of_mem_replicate hx,htl])];simp
   ·have hk:k < l.toNat * es:=by
     have:=(List.getElem?_eq_some_iff.1 hx).1
     rw [ZaE (s:=es) (fun x hx=>by rw [List.eq_of_mem_replicate hx,htl])] at this
     simpa using this
    rw [ZeL _ _ _ (by rw [htl];exact hk)] at hx
    rw [ZeL _ _ _ (by rw [hzs];exact hk),hzs,← htl] at hu
    exact hpz.2 _ x u hx hu
  ·obtain ⟨q,hq,hx⟩:=List.mem_flatten.1 hx
   rw [List.eq_of_mem_replicate hq] at hx
   exact hzf x hx
end
def isFr:V→Bool
 | .fr _ _ _=>true
 | _=>false
def isAgg:V→Bool
 | .agg _=>true
 | _=>false
inductive ImpL (lk:Nat→Option (Nat×Ob)):Nat→List V→List V→List (Nat×Nat×Ob)→Prop
 | nil {id}:ImpL lk id [] [] []
 | fr {id fl e els ep r r' us}:nep (lk id)=ep→ImpL lk (id + 1) r r' us→ImpL lk id (.fr fl e els :: r) (.hnd id ep :: r') ((id,ep,.row fl true e els) :: us)
 | other {id v r r' us}:isFr v=false→ImpL lk (id + 1) r r' us→ImpL lk id (v :: r) (v :: r') us
inductive ImpT (lk:Nat→Option (Nat×Ob)):Nat→List V→List V→List (Nat×Nat×Ob)→Prop
 | nil {id}:ImpT lk id [] [] []
 | agg {id cs cs' us1 r r' us}:ImpL lk id cs cs' us1→ImpT lk (id + 64) r r' us→ImpT lk id (.agg cs :: r) (.agg cs' :: r') (us1++us)
 | fr {id fl e els ep r r' us}:nep (lk id)=ep→ImpT lk (id + 64) r r' us→ImpT lk id (.fr fl e els :: r) (.hnd id ep :: r') ((id,ep,.row fl true e els) :: us)
 | other {id v r r' us}:isFr v=false→isAgg v=false→ImpT lk (id + 64) r r' us→ImpT lk id (v :: r) (v :: r') us
theorem ImpL.eq {lk:Nat→Option (Nat×Ob)} {id:Nat} {cs cs':List V} {us:List (Nat×Nat×Ob)} (h:ImpL lk id cs cs' us):impL false lk id cs=cs'∧updL false lk id cs=us:=by
 induction h with
 | nil=>exact ⟨rfl,rfl⟩
 | fr h1 _ ih=>subst h1;exact ⟨by rw [← ih.1];rfl,by rw [← ih.2];rfl⟩
 | @other id v r r' us h1 _ ih =>
  have e1:imp0 false lk id v=v:=by cases v<;>first|rfl|cases h1
  have e2:upd0 false lk id v=[]:=by cases v<;>first|rfl|cases h1
  exact ⟨by show imp0 false lk id v :: _=_;rw [e1,ih.1],by show upd0 false lk id v++_=_;rw [e2,ih.2];rfl⟩
theorem ImpT.eq {lk:Nat→Option (Nat×Ob)} {id:Nat} {cs cs':List V} {us:List (Nat×Nat×Ob)} (h:ImpT lk id cs cs' us):ZhF false lk id cs=cs'∧Zli false lk id cs=us:=by
 induction h with
 | nil=>exact ⟨rfl,rfl⟩
 | @agg id cs cs' us1 r r' us h1 _ ih=>exact ⟨by show V.agg (impL false lk id cs) :: _=_;rw [h1.eq.1,ih.1],by show updL false lk id cs++_=_;rw [h1.eq.2,ih.2]⟩
 | fr h1 _ ih=>subst h1;exact ⟨by rw [← ih.1];rfl,by rw [← ih.2];rfl⟩
 | @other id v r r' us h1 h2 _ ih =>
  have e1:imp1 false lk id v=v:=by cases v<;>first|rfl|exact Bool.noConfusion (show true=false from h1)|exact Bool.noConfusion (show true=false from h2)
  have e2:upd1 false lk id v=[]:=by cases v<;>first|rfl|exact Bool.noConfusion (show true=false from h1)|exact Bool.noConfusion (show true=false from h2)
  exact ⟨by show imp1 false lk id v :: _=_;rw [e1,ih.1],by show upd1 false lk id v++_=_;rw [e2,ih.2];rfl⟩
section
variable {P:Program} {B:Nat→Prop} {W:En} {o:Oper} {st:St} {KE:V→List (Nat×Nat×Ob)→Prop}
theorem q0cb1 {c:Call} {g:FuncId} {xs:List V} {d ep e:Nat} {fl:Bool} {els:List (List T)} (hA:AC P g xs (.fr fl e els)) (hK:KE (.hnd (1000 * d) ep) [(1000 * d,ep,.row fl true e els)]) (ho:o.op=.call c:=by exact rfl) (hd:o.dst=some d:=by exact rfl) (hc:c.callee=.value (.func g):=by exact rfl) (hs:SeeA (look st.objs) (c.args.toList.map st.ev) xs:=by exact pU5) (hp:(c.args.toList.map st.ev).all ZdX=true∨ZdG (.fr fl e els)=true:=by exact pU21) (hep:nep (look st.objs (1000 * d))=ep:=by exact pU17):OpS P B W o st KE:=
 OpS.call_new ho hd hc hA hs hp.symm rfl rfl rfl (by subst hep;exact hK)
theorem pU1 {X:Prop} (r:X:=by first|((repeat' (first|exact ImpL.nil|exact ImpT.nil|(apply ImpL.other;(focus exact rfl))|(apply ImpL.fr;(focus exact (by exact pU17)))|(apply ImpT.other;(focus exact rfl);(focus exact rfl))|apply ImpT.agg|(apply ImpT.fr;(focus exact (by exact pU17)))));done)|fail):X:=r
theorem qdd4a {c:Call} {g:FuncId} {xs:List V} {d:Nat} {cs cs':List V} {us:List (Nat×Nat×Ob)} (hA:AC P g xs (.agg cs)) (hK:KE (.agg cs') us) (ho:o.op=.call c:=by exact rfl) (hd:o.dst=some d:=by exact rfl) (hc:c.callee=.value (.func g):=by exact rfl) (hs:SeeA (look st.objs) (c.args.toList.map st.ev) xs:=by exact pU5) (hp:(c.args.toList.map st.ev).all ZdX=true∨ZdG (.agg cs)=true:=by exact pU21) (hsm:ZdY (.agg cs)=true:=by exact rfl) (hi:ImpL (look st.objs) (1000 * d) cs cs' us:=by exact pU1):OpS P B W o st KE:=
 OpS.call_new ho hd hc hA hs hp.symm hsm (congrArg V.agg hi.eq.1) hi.eq.2 hK
theorem q3c89 {c:Call} {g:FuncId} {xs:List V} {d:Nat} {cs cs':List V} {us:List (Nat×Nat×Ob)} (hA:AC P g xs (.tup cs)) (hK:KE (.tup cs') us) (ho:o.op=.call c:=by exact rfl) (hd:o.dst=some d:=by exact rfl) (hc:c.callee=.value (.func g):=by exact rfl) (hs:SeeA (look st.objs) (c.args.toList.map st.ev) xs:=by exact pU5) (hp:(c.args.toList.map st.ev).all ZdX=true∨ZdG (.tup cs)=true:=by exact pU21) (hsm:ZdY (.tup cs)=true:=by exact rfl) (hi:ImpT (look st.objs) (1000 * d) cs cs' us:=by exact pU1):OpS P B W o st KE:=
 OpS.call_new ho hd hc hA hs hp.symm hsm (congrArg V.tup hi.eq.1) hi.eq.2 hK
end
theorem SimW.many {P:Program} {B:Nat→Prop} {W:En} {st:St} {a:Act} {w w':World} {pl:Nat→Value} {F:Nat→Nat→Prop} (h:SimW P B W st a w pl F) {objs':List (Nat×Nat×Ob)} {nv:Nat→Value} {nF:Nat→Nat→Prop} {Nw:Nat→Prop}
  (hw:Kp W w w') (hk:∀ b,b < w.heap.size→(∀ i x,Nw i→look st.objs i=some x→¬ F i b)→w'.heap[b]?=w.heap[b]?) (hl:∀ i,¬ Nw i→look objs' i=look st.objs i)
  (hn:∀ i,Nw i→∃ ep ob,look objs' i=some (ep,ob)∧(∀ ep0 ob0,look st.objs i=some (ep0,ob0)→ep0 < ep∨(ep0=ep∧nv i=pl i∧ob.isRow=ob0.isRow∧esz P ob=esz P ob0))∧(look st.objs i=none→0 < ep))
  (hF:∀ i b,Nw i→nF i b→b < w'.heap.size∧(w.heap.size≤b∨∃ j x,Nw j∧look st.objs j=some x∧F j b)) (hd:∀ i j b,Nw i→Nw j→i ≠ j→nF i b→¬ nF j b)
  (hob:∀ lk' pl' Fr',(∀ b,(Free B W.o (look st.objs) F w b∨w.heap.size≤b∨∃ j x,Nw j∧look st.objs j=some x∧F j b)→b < w'.heap.size→(∀ i,Nw i→¬ nF i b)→Fr' b)→(∀ i,Nw i→lk' i=look objs' i∧pl' i=nv i) →
   ∀ i ep ob,Nw i→look objs' i=some (ep,ob)→ObR P w' (C0 P w' lk' pl' Fr') (Rd P w' Fr') (nv i) (nF i) ob) :
  ∃ pl' F',SimW P B W { st with objs:=objs' } a w' pl' F'∧(∀ i,Nw i→pl' i=nv i) ∧
   (∀ b,(Free B W.o (look st.objs) F w b∨w.heap.size≤b∨∃ j x,Nw j∧look st.objs j=some x∧F j b)→b < w'.heap.size→(∀ i,Nw i→¬ nF i b)→Free B W.o (look objs') F' w' b)∧Goes P w w' (look st.objs) (look objs') pl pl' (Free B W.o (look st.objs) F w) (Free B W.o (look objs') F' w')∧(∀ j,¬ Nw j→F' j=F j):=by
 classical
 let pl':Nat→Value:=fun i=>if Nw i then nv i else pl i
 let F':Nat→Nat→Prop:=fun i=>if Nw i then nF i else F i
 have e1:∀ i,Nw i→F' i=nF i:=fun i h=>if_pos h
 have e2:∀ i,¬ Nw i→F' i=F i:=fun i h=>if_neg h
 have hapN:∀ i x b,¬ Nw i→look st.objs i=some x→F i b→¬ ∃ j x,Nw j∧look st.objs j=some x∧F j b:=fun i x b hi hx hf ⟨j,y,hj,hy,hf'⟩ =>
  h.apart i j _ _ b (fun e=>hi (by rw [e];exact hj)) hx hy hf hf'
 have hfr:∀ b,(Free B W.o (look st.objs) F w b∨w.heap.size≤b∨∃ j x,Nw j∧look st.objs j=some x∧F j b)→b < w'.heap.size→(∀ i,Nw i→¬ nF i b)→Free B W.o (look objs') F' w' b:=fun b hb hlt hnb=>by
  refine ⟨?_,hlt,fun i x hi hf=>?_⟩
  ·rcases hb with hb|hb|⟨j,x,hj,hx,hb⟩
   ·exact hb.1
   ·exact .inr (.inl (Nat.le_trans h.below.size hb))
   ·exact .inr (h.range _ _ _ hx hb).1
  ·by_cases hN:Nw i
   ·rw [e1 i hN] at hf;exact hnb i hN hf
   ·rw [e2 i hN] at hf
    rw [hl i hN] at hi
    rcases hb with hb|hb|hb
    ·exact hb.2.2 _ _ hi hf
    ·have:=(h.range _ _ _ hi hf).2;omega
    ·exact hapN i x b hN hi hf hb
 have g:Goes P w w' (look st.objs) (look objs') pl pl' (Free B W.o (look st.objs) F w) (Free B W.o (look objs') F' w'):=by
  refine ⟨fun b hb=>hfr b (.inl hb) (Nat.lt_of_lt_of_le hb.2.1 hw.size) fun i hi hf=>?_,fun b hb=>hk b hb.2.1 fun i x _ hx hf=>hb.2.2 i x hx hf,fun o ep ob ho=>?_⟩
  ·rcases (hF i b hi hf).2 with h1|⟨j,x,_,hx,h1⟩
   ·have:=hb.2.1;omega
   ·exact hb.2.2 j x hx h1
  ·by_cases hN:Nw o
   ·obtain ⟨ep',ob',h1,h2,_⟩:=hn o hN
    refine ⟨ep',ob',h1,?_⟩
    rcases h2 _ _ ho with h3|⟨h3,h4,h5,h6⟩
    ·exact .inl h3
    ·exact .inr ⟨h3,(if_pos hN).trans h4,h5,h6⟩
   ·exact ⟨ep,ob,(hl o hN).trans ho,.inr ⟨rfl,if_neg hN,rfl,rfl⟩⟩
 have hC:=hob (look objs') pl' (Free B W.o (look objs') F' w') hfr fun i hi=>⟨rfl,if_pos hi⟩
 refine ⟨pl',F',⟨h.old,h.size,h.defers,h.below.trans hw,fun i hi=>(h.tmps i hi).goes g,fun o ep ob ho=>?_,fun o x b ho hf=>?_,fun o o' x x' b hne ho ho' hf hf'=>?_,fun o ob0 h0 ep ob ho=>?_⟩,fun i hi=>if_pos hi,hfr,g,e2⟩
 ·by_cases hN:Nw o
  ·rw [e1 o hN,show pl' o=nv o from if_pos hN]
   exact hC o ep ob hN ho
  ·have ho0:=ho
   rw [hl o hN] at ho0
   rw [e2 o hN,show pl' o=pl o from if_neg hN]
   exact (h.objs o ep ob ho0).goes (fun b hb=>hk b (h.range o _ b ho0 hb).2 fun i x hi hx hf=>hapN o _ b hN ho0 hb ⟨i,x,hi,hx,hf⟩) (fun _ _ hc=>C0.goes g hc) (fun _ _ hr=>hr.mono g.more g.heap)
 ·by_cases hN:Nw o
  ·rw [e1 o hN] at hf
   obtain ⟨h1,h2⟩:=hF o b hN hf
   refine ⟨?_,h1⟩
   rcases h2 with h2|⟨j,y,_,hy,h2⟩
   ·exact .inl (Nat.le_trans h.below.size h2)
   ·exact (h.range _ _ _ hy h2).1
  ·rw [e2 o hN] at hf
   rw [hl o hN] at ho
   have:=h.range _ _ _ ho hf
   exact ⟨this.1,Nat.lt_of_lt_of_le this.2 hw.size⟩
 ·have key:∀ i j x,Nw i→¬ Nw j→look st.objs j=some x→nF i b→F j b→False:=fun i j x hi hj hx hfi hfj=>by
   rcases (hF i b hi hfi).2 with h1|h1
   ·have:=(h.range _ _ _ hx hfj).2;omega
   ·exact hapN j x b hj hx hfj h1
  by_cases hN:Nw o
  ·rw [e1 o hN] at hf
   by_cases hN':Nw o'
   ·rw [e1 o' hN'] at hf'
    exact hd o o' b hN hN' hne hf hf'
   ·rw [e2 o' hN'] at hf'
    rw [hl o' hN'] at ho'
    exact key o o' _ hN hN' ho' hf hf'
  ·rw [e2 o hN] at hf
   rw [hl o hN] at ho
   by_cases hN':Nw o'
   ·rw [e1 o' hN'] at hf'
    exact key o' o _ hN' hN ho hf' hf
   ·rw [e2 o' hN'] at hf'
    rw [hl o' hN'] at ho'
    exact h.apart _ _ _ _ b hne ho ho' hf hf'
 ·by_cases hN:Nw o
  ·obtain ⟨ep',ob',h1,h2,h3⟩:=hn o hN
   rw [h1] at ho
   cases ho
   cases hlo:look st.objs o with
   | none=>exact .inl (h3 hlo)
   | some x =>
    obtain ⟨e0,b0⟩:=x
    rcases h2 _ _ hlo with h4|⟨h4,h5,h6,h7⟩
    ·exact .inl (by omega)
    ·rcases h.hist o ob0 h0 _ _ hlo with h8|⟨h8,h9,h10⟩
     ·exact .inl (by omega)
     ·exact .inr ⟨(if_pos hN).trans (h5.trans h8),h6.trans h9,h7.trans h10⟩
  ·rw [hl o hN] at ho
   rcases h.hist o ob0 h0 ep ob ho with h5|⟨h5,h6⟩
   ·exact .inl h5
   ·exact .inr ⟨(if_neg hN).trans h5,h6⟩
section
variable (m:List (Nat×Nat×Nat)) (lk:Nat→Option (Nat×Ob))
def SeeM0 (v x:V):Prop:=(Zcs x=true∧v=ZfA m x)∨(Zcs x=false∧See0 lk v x)
def SeeML:List V→List V→Prop
 | [],[]=>True
 | c :: cs,d :: ds=>SeeM0 m lk c d∧SeeML cs ds
 | _,_=>False
def SeeM1:V→V→Prop
 | .agg cs,.agg ds=>SeeML m lk cs ds
 | v,x=>SeeM0 m lk v x
def Znp:List V→List V→Prop
 | [],[]=>True
 | c :: cs,d :: ds=>SeeM1 m lk c d∧Znp cs ds
 | _,_=>False
end
def ZmZ:Ob→Bool
 | .box _ cs=>cs.all fun v=>match v with | .t x=>x.cst | .rptr ..=>false|_=>true
 | .row _ d _ _=>d
 | .hole _ _ _ x=>(match x with | .t x=>x.cst | .rptr ..=>false|_=>true)
 | .gone=>true
def Zp2 (v x:V):List Nat:=if Zcs x then [] else ZjI v
def outsL:List V→List V→List Nat
 | c :: cs,d :: ds=>Zp2 c d++outsL cs ds
 | _,_=>[]
def outs1:V→V→List Nat
 | .agg cs,.agg ds=>outsL cs ds
 | v,x=>Zp2 v x
def ZgX:List V→List V→List Nat
 | c :: cs,d :: ds=>outs1 c d++ZgX cs ds
 | _,_=>[]
section
variable {P:Program} {B:Nat→Prop} {W:En} {st:St} {a:Act} {w:World} {pl:Nat→Value} {F:Nat→Nat→Prop} {m:List (Nat×Nat×Nat)} {objs:List (Nat×Nat×Ob)} {plc:Nat→Value} {FrE:Nat→Prop}
theorem SimW.seeM0 (h:SimW P B W st a w pl F) (hl:∀ o ob,look objs o=some (0,ob)→look st.objs (ren m o).1=some ((ren m o).2,Zeb m ob)∧pl (ren m o).1=plc o) (hF:∀ b,Free B W.o (look st.objs) F w b→FrE b) {v x:V} (hid:∀ i,i ∈ ids0 x→∃ ob,look objs i=some (0,ob)) (hO:∀ o,o ∈ Zp2 v x→∀ y b,look st.objs o=some y→F o b→FrE b)
  {u:Value} (hv:C0 P w (look st.objs) pl (Free B W.o (look st.objs) F w) v u) (hs:SeeM0 m (look st.objs) v x):C0 P w (look objs) plc FrE x u:=by
 rcases hs with ⟨_,rfl⟩|⟨h1,h2⟩
 ·exact C0.unren (fun o ho=>by obtain ⟨ob,h1⟩:=hid o ho;exact ⟨ob,h1,hl o ob h1⟩) hF hv
 ·have h3:=h.see0 hF (fun o ho=>hO o (by unfold Zp2;rw [h1];exact ho)) hv h2
  cases x with
  | t y=>exact h3
  | lit y=>exact h3
  | hnd=>cases h1
  | ptr=>cases h1
  | view=>cases h1
  | _=>cases v<;>exact h2.elim
theorem SimW.seeML (h:SimW P B W st a w pl F) (hl:∀ o ob,look objs o=some (0,ob)→look st.objs (ren m o).1=some ((ren m o).2,Zeb m ob)∧pl (ren m o).1=plc o) (hF:∀ b,Free B W.o (look st.objs) F w b→FrE b):∀ {cs ds:List V} {us:List Value},(∀ i,i ∈ ds.flatMap ids0→∃ ob,look objs i=some (0,ob)) →
  (∀ o,o ∈ outsL cs ds→∀ y b,look st.objs o=some y→F o b→FrE b)→Pw (C0 P w (look st.objs) pl (Free B W.o (look st.objs) F w)) cs us→SeeML m (look st.objs) cs ds→Pw (C0 P w (look objs) plc FrE) ds us
 | [],[],us,_,_,hp,_=>by rw [List.eq_nil_of_length_eq_zero hp.1];exact Pw.nil
 | [],_ :: _,_,_,_,_,hs=>hs.elim
 | _ :: _,[],_,_,_,_,hs=>hs.elim
 | _ :: _,_ :: _,[],_,_,hp,_=>by have:=hp.1;simp at this
 | c :: cs,d :: ds,u :: us,hid,hO,hp,hs =>
  Pw.cons (h.seeM0 hl hF (fun i hi=>hid i (by rw [List.flatMap_cons];exact List.mem_append_left _ hi)) (fun o ho=>hO o (List.mem_append_left _ ho)) (hp.2 0 c u rfl rfl) hs.1)
   (h.seeML hl hF (fun i hi=>hid i (by rw [List.flatMap_cons];exact List.mem_append_right _ hi)) (fun o ho=>hO o (List.mem_append_right _ ho)) (⟨by have:=hp.1;simpa using this,fun k x v hx hv=>hp.2 (k + 1) x v (by simpa using hx) (by simpa using hv)⟩) hs.2)
theorem SimW.seeM1 (h:SimW P B W st a w pl F) (hl:∀ o ob,look objs o=some (0,ob)→look st.objs (ren m o).1=some ((ren m o).2,Zeb m ob)∧pl (ren m o).1=plc o) (hF:∀ b,Free B W.o (look st.objs) F w b→FrE b) {v x:V} (hid:∀ i,i ∈ ids1 x→∃ ob,look objs i=some (0,ob)) (hO:∀ o,o ∈ outs1 v x→∀ y b,look st.objs o=some y→F o b→FrE b)
  {u:Value} (hv:C2 P w (look st.objs) pl (Free B W.o (look st.objs) F w) v u) (hs:SeeM1 m (look st.objs) v x):C1 P w (look objs) plc FrE x u:=by
 cases v with
 | agg cs =>
  cases x with
  | agg ds =>
   obtain ⟨us,h1,h2,h3⟩:=hv
   obtain ⟨g1,g2⟩:=h.seeML hl hF hid hO ⟨h2,h3⟩ hs
   exact ⟨us,h1,g1,g2⟩
  | t=>rcases hs with ⟨h1,_⟩|⟨_,h1⟩<;>first|(cases h1;done)|exact h1.elim
  | _=>rcases hs with ⟨_,h1⟩|⟨_,h1⟩<;>first|(cases h1;done)|exact h1.elim
 | tup vs=>cases x<;>(rcases hs with ⟨h0,h1⟩|⟨_,h1⟩<;>first|(cases h0;done)|(cases h1;done)|exact h1.elim)
 | t y=>exact (h.seeM0 hl hF (v:=.t y) (x:=x) (fun i hi=>hid i (by cases x<;>first|exact hi|cases hi)) (fun o ho=>hO o (by cases x<;>exact ho)) hv (by cases x<;>exact hs)).c1
 | hnd o ep=>exact (h.seeM0 hl hF (v:=.hnd o ep) (x:=x) (fun i hi=>hid i (by cases x<;>first|exact hi|cases hi)) (fun o ho=>hO o (by cases x<;>exact ho)) hv (by cases x<;>exact hs)).c1
 | ptr o ep i off=>exact (h.seeM0 hl hF (v:=.ptr o ep i off) (x:=x) (fun i hi=>hid i (by cases x<;>first|exact hi|cases hi)) (fun o ho=>hO o (by cases x<;>exact ho)) hv (by cases x<;>exact hs)).c1
 | view o ep i n=>exact (h.seeM0 hl hF (v:=.view o ep i n) (x:=x) (fun i hi=>hid i (by cases x<;>first|exact hi|cases hi)) (fun o ho=>hO o (by cases x<;>exact ho)) hv (by cases x<;>exact hs)).c1
 | lit y=>exact (h.seeM0 hl hF (v:=.lit y) (x:=x) (fun i hi=>hid i (by cases x<;>first|exact hi|cases hi)) (fun o ho=>hO o (by cases x<;>exact ho)) hv (by cases x<;>exact hs)).c1
 | rptr cs off=>cases x<;>(rcases hs with ⟨h0,h1⟩|⟨_,h1⟩<;>first|(cases h0;done)|(cases h1;done)|exact h1.elim)
 | fr=>cases x<;>(rcases hs with ⟨h0,h1⟩|⟨_,h1⟩<;>first|(cases h0;done)|(cases h1;done)|exact h1.elim)
 | junk=>cases x<;>(rcases hs with ⟨h0,h1⟩|⟨_,h1⟩<;>first|(cases h0;done)|(cases h1;done)|exact h1.elim)
theorem SimW.seeMA (h:SimW P B W st a w pl F) (hl:∀ o ob,look objs o=some (0,ob)→look st.objs (ren m o).1=some ((ren m o).2,Zeb m ob)∧pl (ren m o).1=plc o) (hF:∀ b,Free B W.o (look st.objs) F w b→FrE b):∀ (xs:List Operand) (aS:List V),(∀ i,i ∈ aS.flatMap ids1→∃ ob,look objs i=some (0,ob)) →
  (∀ o,o ∈ ZgX (xs.map st.ev) aS→∀ y b,look st.objs o=some y→F o b→FrE b)→Znp m (look st.objs) (xs.map st.ev) aS→Pw (C1 P w (look objs) plc FrE) aS (xs.map a.eval)
 | [],[],_,_,_=>Pw.nil
 | [],_ :: _,_,_,hs=>hs.elim
 | _ :: _,[],_,_,hs=>hs.elim
 | x :: xs,d :: ds,hid,hO,hs=>Pw.cons (h.seeM1 hl hF (fun i hi=>hid i (by rw [List.flatMap_cons];exact List.mem_append_left _ hi)) (fun o ho=>hO o (List.mem_append_left _ ho)) (h.ev x) hs.1)
   (h.seeMA hl hF xs ds (fun i hi=>hid i (by rw [List.flatMap_cons];exact List.mem_append_right _ hi)) (fun o ho=>hO o (List.mem_append_right _ ho)) hs.2)
end
theorem Zc4 {α β:Type} {f:α→β}:∀ {l:List α} (_:(l.map f).Nodup) {a b:α},a ∈ l→b ∈ l→f a=f b→a=b
 | [],_,_,_,h,_,_=>by cases h
 | c :: r,hn,a,b,ha,hb,he=>by
  rw [List.map_cons,List.nodup_cons] at hn
  rcases List.mem_cons.1 ha with e1|h1
  ·rcases List.mem_cons.1 hb with e2|h2
   ·rw [e1,e2]
   ·exact (hn.1 (List.mem_map.2 ⟨b,h2,by rw [← he,e1]⟩)).elim
  ·rcases List.mem_cons.1 hb with e2|h2
   ·exact (hn.1 (List.mem_map.2 ⟨a,h1,by rw [he,e2]⟩)).elim
   ·exact Zc4 hn.2 h1 h2 he
theorem ZoK {objs:List (Nat×Nat×Ob)}:∀ {l:List (Nat×Nat×Ob)},leO objs l→∀ {i e:Nat} {b:Ob},(i,e,b) ∈ l→look objs i=some (e,b)
 | [],_,_,_,_,h=>by cases h
 | (o,e0,b0) :: r,hl,i,e,b,h=>by
  rcases List.mem_cons.1 h with h|h
  ·cases h;exact hl.1
  ·exact ZoK hl.2 h
def isTup:V→Bool
 | .tup _=>true
 | _=>false
inductive Imp2 (lk:Nat→Option (Nat×Ob)):Nat→V→V→List (Nat×Nat×Ob)→Prop
 | tup {id vs vs' us}:ImpT lk id vs vs' us→Imp2 lk id (.tup vs) (.tup vs') us
 | agg {id cs cs' us}:ImpL lk id cs cs' us→Imp2 lk id (.agg cs) (.agg cs') us
 | fr {id fl e els ep}:nep (lk id)=ep→Imp2 lk id (.fr fl e els) (.hnd id ep) [(id,ep,.row fl true e els)]
 | other {id v}:isFr v=false→isAgg v=false→isTup v=false→Imp2 lk id v v []
theorem Imp2.eq {lk:Nat→Option (Nat×Ob)} {id:Nat} {r v:V} {us:List (Nat×Nat×Ob)} (h:Imp2 lk id r v us):imp2 false lk id r=v∧upd2 false lk id r=us:=by
 cases h with
 | tup h=>exact ⟨congrArg V.tup h.eq.1,h.eq.2⟩
 | agg h=>exact ⟨congrArg V.agg h.eq.1,h.eq.2⟩
 | fr h=>subst h;exact ⟨rfl,rfl⟩
 | other h1 h2 h3 =>
  cases r<;>first|exact ⟨rfl,rfl⟩|exact Bool.noConfusion (show true=false from h1)|exact Bool.noConfusion (show true=false from h2)|exact Bool.noConfusion (show true=false from h3)
inductive Imp3 (m:List (Nat×Nat×Nat)) (lk:Nat→Option (Nat×Ob)) (id:Nat):V→V→List (Nat×Nat×Ob)→Prop
 | ptr {o ep k off i d e'}:ren m o=(i,d)→d + ep=e'→Imp3 m lk id (.ptr o ep k off) (.ptr i e' k off) []
 | hnd {o ep i d e'}:ren m o=(i,d)→d + ep=e'→Imp3 m lk id (.hnd o ep) (.hnd i e') []
 | imp {r v us}:Zcs r=false→Imp2 lk id r v us→Imp3 m lk id r v us
inductive RenL (m:List (Nat×Nat×Nat)):List V→List V→Prop
 | nil:RenL m [] []
 | hnd {o ep i d e' r r'}:ren m o=(i,d)→d + ep=e'→RenL m r r'→RenL m (.hnd o ep :: r) (.hnd i e' :: r')
 | ptr {o ep k off i d e' r r'}:ren m o=(i,d)→d + ep=e'→RenL m r r'→RenL m (.ptr o ep k off :: r) (.ptr i e' k off :: r')
 | view {o ep j n i d e' r r'}:ren m o=(i,d)→d + ep=e'→RenL m r r'→RenL m (.view o ep j n :: r) (.view i e' j n :: r')
 | other {v r r'}:Zcs v=false→RenL m r r'→RenL m (v :: r) (v :: r')
inductive RenR (m:List (Nat×Nat×Nat)):List (Nat×Nat×Ob)→List (Nat×Nat×Ob)→Prop
 | nil:RenR m [] []
 | row {o ep i d e' fl dd e els r r'}:ren m o=(i,d)→d + ep=e'→RenR m r r'→RenR m ((o,ep,.row fl dd e els) :: r) ((i,e',.row fl dd e els) :: r')
 | box {o ep i d e' ty cs cs' r r'}:ren m o=(i,d)→d + ep=e'→RenL m cs cs'→RenR m r r'→RenR m ((o,ep,.box ty cs) :: r) ((i,e',.box ty cs') :: r')
 | gone {o ep i d e' r r'}:ren m o=(i,d)→d + ep=e'→RenR m r r'→RenR m ((o,ep,.gone) :: r) ((i,e',.gone) :: r')
theorem RenL.eq {m:List (Nat×Nat×Nat)} {cs cs':List V} (h:RenL m cs cs'):ZgE m cs=cs':=by
 induction h with
 | nil=>rfl
 | hnd h1 h2 _ ih=>subst h2;simp [ZgE,ZfA,h1,ih]
 | ptr h1 h2 _ ih=>subst h2;simp [ZgE,ZfA,h1,ih]
 | view h1 h2 _ ih=>subst h2;simp [ZgE,ZfA,h1,ih]
 | @other v r r' h1 _ ih =>
  have:ZfA m v=v:=by cases v<;>first|rfl|exact Bool.noConfusion (show true=false from h1)
  simp [ZgE,this,ih]
theorem RenR.eq {m:List (Nat×Nat×Nat)} {l l':List (Nat×Nat×Ob)} (h:RenR m l l'):renO m l=l':=by
 induction h with
 | nil=>rfl
 | row h1 h2 _ ih=>subst h2;simp [renO,Zeb,h1,ih]
 | box h1 h2 h3 _ ih=>subst h2;simp [renO,Zeb,h1,h3.eq,ih]
 | gone h1 h2 _ ih=>subst h2;simp [renO,Zeb,h1,ih]
def nodupB:List Nat→Bool
 | []=>true
 | x :: r=>!r.contains x && nodupB r
theorem ZdW:∀ {l:List Nat},nodupB l=true→l.Nodup
 | [],_=>List.nodup_nil
 | x :: r,h=>by
  unfold nodupB at h
  rw [Bool.and_eq_true,Bool.not_eq_true'] at h
  exact List.nodup_cons.2 ⟨fun hm=>(by rw [List.contains_iff_mem.2 hm] at h;cases h.1),ZdW h.2⟩
def Zer (st:St) (m:List (Nat×Nat×Nat)) (objs objs':List (Nat×Nat×Ob)):Bool :=
 objs'.all fun x=>(idsL objs).contains x.1 || (match look st.objs (ren m x.1).1 with|some (e,_)=>Nat.blt e ((ren m x.1).2 + x.2.1)|none=>Nat.blt 0 ((ren m x.1).2 + x.2.1))
def ZhQ (r:V) (objs':List (Nat×Nat×Ob)):Bool:=ZdG r && objs'.all fun p=>ZmZ p.2.2
structure MutK (st:St) (m:List (Nat×Nat×Nat)) (objs:List (Nat×Nat×Ob)) (args aS:List V) (d:Nat) (KE:V→List (Nat×Nat×Ob)→Prop) (objs':List (Nat×Nat×Ob)) (r v:V) (us us':List (Nat×Nat×Ob)):Prop where
 imp:Imp3 m (look st.objs) (1000 * d) r v us
 nd:nodupB (idsL (renO m objs'++us))=true
 new:Zer st m objs objs'=true
 pur:(ZhQ r objs'=true∧((ZgX args aS).all fun o=>!(idsL (renO m objs)).contains o)=true)∨ZgX args aS=[]
 sm:ZdY r=true
 hin:((idsL objs).all fun o=>(idsL objs').contains o)=true
 re:RenR m objs' us'
 go:KE v (us'++us)
section
variable {P:Program} {B:Nat→Prop} {W:En} {o:Oper} {st:St} {KE:V→List (Nat×Nat×Ob)→Prop}
theorem OpS.call_mutP {c:Call} {g:FuncId} {objs:List (Nat×Nat×Ob)} {aS:List V} {α:Type} {O:α→List (Nat×Nat×Ob)} {R:α→V} {Post:α→Prop} {d:Nat} {m:List (Nat×Nat×Nat)} (ho:o.op=.call c) (hd:o.dst=some d) (hc:c.callee=.value (.func g)) (hA:AMP P g objs aS O R Post)
  (hs:Znp m (look st.objs) (c.args.toList.map st.ev) aS) (hob:leO st.objs (renO m objs)) (hid:((aS.flatMap ids1).all fun o=>(idsL objs).contains o)=true) (hcl:((objs.flatMap fun p=>ZgB p.2.2).all fun o=>(idsL objs).contains o)=true)
  (hout:ZgX (c.args.toList.map st.ev) aS=[]∨((∀ x,Post x→ZhQ (R x) (O x)=true)∧((ZgX (c.args.toList.map st.ev) aS).all fun o=>!(idsL (renO m objs)).contains o)=true)) (hinj:nodupB (idsL (renO m objs))=true)
  (hK:∀ x,Post x→∃ v us us',MutK st m objs (c.args.toList.map st.ev) aS d KE (O x) (R x) v us us'):OpS P B W o st KE:=by
 intro a w pl F hS next Q hn
 obtain ⟨⟨fn,h1,h2,h3⟩,hz,hcall⟩:=hA
 have hrun:(execOp a.eval o).run P w=.ok (.enter g (c.args.toList.map a.eval).toArray) w:=by
  unfold execOp
  rw [ho]
  have he:a.eval (.func g)=.func (.func g) #[] #[]:=rfl
  have hb:fn.body ≠ none:=fun e=>by rw [e] at h2;cases h2
  have hnm:fn.name ≠ "runtime.NumGoroutine":=by simpa using h3
  have hm:Array.map a.eval c.args=(List.map a.eval c.args.toList).toArray:=by rw [← Array.toList_map,Array.toArray_toList]
  simp [resolve,hc,he,Deferred.ofValue,invoke,callFunc,h1,hb,hnm,hm]
 classical
 have hl:∀ o ob,look objs o=some (0,ob)→look st.objs (ren m o).1=some ((ren m o).2,Zeb m ob):=fun o ob ho=>by
  have:=ZoK hob (Zf2.2 ⟨o,0,ob,Zbw ho,rfl,rfl,rfl⟩)
  rw [Nat.add_zero] at this
  exact this
 have hD:∀ o x,look objs o=some x→∃ ob,x=(0,ob):=fun o ⟨e,ob⟩ hx=>⟨ob,by rw [Zpy hz hx]⟩
 have hDl:∀ o x,look objs o=some x→∃ y,look st.objs (ren m o).1=some y:=fun o x hx=>by
  obtain ⟨ob,rfl⟩:=hD o x hx
  exact ⟨_,hl o ob hx⟩
 have hidsr0:∀ l:List (Nat×Nat×Ob),idsL (renO m l)=l.map fun p=>(ren m p.1).1:=fun l=>by
  induction l with
  | nil=>rfl
  | cons p r ih=>obtain ⟨o,e,b⟩:=p;show (ren m o).1 :: idsL (renO m r)=_;rw [ih];rfl
 have hnd0:=ZdW hinj
 rw [hidsr0] at hnd0
 have hinj0:∀ o o' x x',look objs o=some x→look objs o'=some x'→(ren m o).1=(ren m o').1→o=o':=fun o o' x x' hx hx' he=>by
  have:=Zc4 (f:=fun p:Nat×Nat×Ob=>(ren m p.1).1) hnd0 (Zbw hx) (Zbw hx') he
  exact congrArg (·.1) this
 let plc:Nat→Value:=fun o=>pl (ren m o).1
 let Fc:Nat→Nat→Prop:=fun o=>F (ren m o).1
 let Bx:Nat→Prop:=fun b=>Free B W.o (look st.objs) F w b∨((∀ x,Post x→ZhQ (R x) (O x)=true)∧∃ o y,look st.objs o=some y∧(∀ o' x,look objs o'=some x→(ren m o').1 ≠ o)∧F o b)
 have hFE:∀ b,Free B W.o (look st.objs) F w b→Free Bx (fun _=>False) (look objs) Fc w b:=fun b hb=>⟨.inl (.inl hb),hb.2.1,fun o x hx hf=>by
  obtain ⟨y,hy⟩:=hDl o x hx
  exact hb.2.2 _ _ hy hf⟩
 have hB:∀ b,Bx b→b < w.heap.size:=fun b hb=>by
  rcases hb with hb|⟨_,o,y,hy,_,hf⟩
  ·exact hb.2.1
  ·exact (hS.range _ _ _ hy hf).2
 have hEnv:Env0 P w Bx objs plc Fc:=by
  refine ⟨fun o ep ob hx=>?_,fun o x b hx hf=>?_,fun o o' x x' b hne hx hx' hf=>?_⟩
  ·have h0:=Zpy hz hx
   subst h0
   refine ObR.unren (m:=m) (fun x u hxi hc=>C0.unren (lk:=look st.objs) (pl:=pl) (fun i hi=>?_) hFE hc) (fun x u hr=>hr.mono hFE fun _ _=>rfl) (hS.objs _ _ _ (hl o ob hx))
   obtain ⟨y,hy⟩:=Zct (List.all_eq_true.1 hcl i (List.mem_flatMap.2 ⟨_,Zbw hx,hxi i hi⟩))
   obtain ⟨ob',rfl⟩:=hD i y hy
   exact ⟨ob',hy,hl i ob' hy,rfl⟩
  ·obtain ⟨y,hy⟩:=hDl o x hx
   exact (hS.range _ _ b hy hf).2
  ·obtain ⟨y,hy⟩:=hDl o x hx
   obtain ⟨y',hy'⟩:=hDl o' x' hx'
   exact hS.apart _ _ _ _ b (fun e=>hne (hinj0 o o' _ _ hx hx' e)) hy hy' hf
 have hargs:=hS.seeMA (m:=m) (objs:=objs) (plc:=plc) (FrE:=Free Bx (fun _=>False) (look objs) Fc w) (fun o ob hx=>⟨hl o ob hx,rfl⟩) hFE c.args.toList aS
  (fun i hi=>by
   obtain ⟨y,hy⟩:=Zct (List.all_eq_true.1 hid i hi)
   obtain ⟨ob',rfl⟩:=hD i y hy
   exact ⟨ob',hy⟩)
  (fun o hout' y b hy hf=>by
   rcases hout with hp|⟨hp1,hp2⟩
   ·rw [hp] at hout'
    cases hout'
   ·have hno:∀ o' x,look objs o'=some x→(ren m o').1 ≠ o:=fun o' x hx e=>by
     have h5:=List.all_eq_true.1 hp2 o hout'
     obtain ⟨ob',rfl⟩:=hD o' x hx
     have h6:(idsL (renO m objs)).contains o=true:=List.contains_iff_mem.2 (List.mem_map.2 ⟨_,Zf2.2 ⟨o',0,ob',Zbw hx,rfl,rfl,rfl⟩,e⟩)
     rw [h6] at h5
     cases h5
    refine ⟨.inl (.inr ⟨hp1,o,y,hy,hno,hf⟩),(hS.range _ _ _ hy hf).2,fun o' x hx hf'=>?_⟩
    obtain ⟨y',hy'⟩:=hDl o' x hx
    exact hS.apart _ _ _ _ b (hno o' x hx) hy' hy hf' hf) hs
 unfold Oper.wp
 rw [hrun,Oper.upon_enter]
 refine (hcall w Bx _ plc Fc hB hEnv hargs).mono ?_
 rintro e w' ⟨x0,u,pl',F',FF,hpost,rfl,hkp,hend⟩
 obtain ⟨v,us,us',hi,hnd',hnew,hp,hsm,hin,hre,hKK⟩:=hK x0 hpost
 have hpu0:(∀ x,Post x→ZhQ (R x) (O x)=true)→ZhQ (R x0) (O x0)=true:=fun h=>h x0 hpost
 generalize O x0=objs' at *
 generalize R x0=r at *
 have hnd:=ZdW hnd'
 rw [← hre.eq] at hKK
 clear hnd'
 have hDD:∀ o x,look objs o=some x→∃ y,look objs' o=some y:=fun o x hx=>Zct (List.all_eq_true.1 hin o (ZjC hx))
 have hidsr:idsL (renO m objs'++us)=(objs'.map fun p=>(ren m p.1).1)++idsL us:=by
  rw [← hidsr0]
  unfold idsL
  rw [List.map_append]
 have hnd':=hnd
 rw [hidsr,List.nodup_append] at hnd'
 obtain ⟨hnd1,hnd2,hnd3⟩:=hnd'
 have hinj:∀ o o' x x',look objs' o=some x→look objs' o'=some x'→(ren m o).1=(ren m o').1→o=o':=fun o o' x x' hx hx' he=>by
  have:=Zc4 (f:=fun p:Nat×Nat×Ob=>(ren m p.1).1) hnd1 (Zbw hx) (Zbw hx') he
  exact congrArg (·.1) this
 have hus:us=(if Zcs r=true then [] else upd2 false (look st.objs) (1000 * d) r):=by
  cases hi with
  | ptr=>rfl
  | hnd=>rfl
  | imp h1 h2=>rw [if_neg (by rw [h1];decide),h2.eq.2]
 have husm:∀ i e b,(i,e,b) ∈ us→Zcs r=false:=fun i e b hi'=>by
  cases ho:Zcs r with
  | false=>rfl
  | true=>rw [hus,if_pos ho] at hi';cases hi'
 show next (a.put o.dst u) w'
 let site:=1000 * d
 have hmem:∀ i e b,(i,e,b) ∈ us→(i,e,b) ∈ upd2 false (look st.objs) (1000 * d) r:=fun i e b hi'=>by
  have g1:=husm i e b hi'
  rw [hus,if_neg (by rw [g1];decide)] at hi'
  exact hi'
 have hdec:∀ j k,k < 64→(site + j * 64 + k - site) / 64=j∧(site + j * 64 + k - site) % 64=k:=fun j k hk=>by omega
 let Is:Nat→Prop:=fun i=>∃ o x,look objs' o=some x∧(ren m o).1=i
 let τ:Nat→Nat:=fun i=>if h:Is i then h.choose else 0
 have hτ:∀ o x,look objs' o=some x→τ (ren m o).1=o:=fun o x hx=>by
  have h:Is (ren m o).1:=⟨o,x,hx,rfl⟩
  have e:τ (ren m o).1=h.choose:=dif_pos h
  rw [e]
  obtain ⟨y,hy,hr⟩:=h.choose_spec
  exact hinj _ _ _ _ hy hx hr
 let nv:Nat→Value:=fun i=>if Is i then pl' (τ i) else celU u ((i - site) / 64) ((i - site) % 64)
 let nF:Nat→Nat→Prop:=fun i=>if Is i then F' (τ i) else FF ((i - site) / 64) ((i - site) % 64)
 let Nw:Nat→Prop:=fun i=>Is i∨∃ e b,(i,e,b) ∈ us
 have hnis:∀ i e b,(i,e,b) ∈ us→¬ Is i:=fun i e b hi ⟨o,x,hx,hr⟩ =>
  hnd3 i (List.mem_map.2 ⟨_,Zbw hx,hr⟩) i (List.mem_map.2 ⟨_,hi,rfl⟩) rfl
 have nv1:∀ o x,look objs' o=some x→nv (ren m o).1=pl' o:=fun o x hx=>by
  have e:nv (ren m o).1=pl' (τ (ren m o).1):=if_pos ⟨o,x,hx,rfl⟩
  rw [e,hτ o x hx]
 have nF1:∀ o x,look objs' o=some x→nF (ren m o).1=F' o:=fun o x hx=>by
  have e:nF (ren m o).1=F' (τ (ren m o).1):=if_pos ⟨o,x,hx,rfl⟩
  rw [e,hτ o x hx]
 have nF2:∀ i,¬ Is i→nF i=FF ((i - site) / 64) ((i - site) % 64):=fun i hi=>if_neg hi
 have nv2:∀ i,¬ Is i→nv i=celU u ((i - site) / 64) ((i - site) % 64):=fun i hi=>if_neg hi
 have hmemr:∀ o ep ob,look objs' o=some (ep,ob)→((ren m o).1,(ren m o).2 + ep,Zeb m ob) ∈ renO m objs'++us:=fun o ep ob hx=>List.mem_append_left _ (Zf2.2 ⟨o,ep,ob,Zbw hx,rfl,rfl,rfl⟩)
 have huniq:∀ i e b,(i,e,b) ∈ renO m objs'++us→look (updl st.objs (renO m objs'++us)) i=some (e,b):=fun i e b hi=>by
  refine Zd9 _ _ _ _ _ hi fun e' b' hi'=>?_
  have:=Zc4 (f:=fun p:Nat×Nat×Ob=>p.1) hnd hi' hi rfl
  cases this
  exact ⟨rfl,rfl⟩
 have hFrM:¬ ZhQ r objs'=true→∀ (NF:Nat→Prop),(∀ b,(Free B W.o (look st.objs) F w b∨w.heap.size≤b∨∃ j x,Nw j∧look st.objs j=some x∧F j b)→b < w'.heap.size→(∀ i,Nw i→¬ nF i b)→NF b) →
   ∀ b,FrM Bx (En.o ⟨w,MSet objs Fc,objs,plc⟩) w' (look objs') F' FF b→NF b:=fun hpu NF hNF b hb=>by
  obtain ⟨q1,q2,q3,q4⟩:=hb
  refine hNF b ?_ q2 fun i hi hf=>?_
  ·rcases q1 with (q1|⟨q1,_⟩)|(q1|⟨o,x,hx,hf⟩)
   ·exact .inl q1
   ·exact absurd (hpu0 q1) hpu
   ·exact .inr (.inl q1)
   ·obtain ⟨y,hy⟩:=hDl o x hx
    obtain ⟨z,hz1⟩:=hDD o x hx
    exact .inr (.inr ⟨_,y,.inl ⟨o,z,hz1,rfl⟩,hy,hf⟩)
  ·rcases hi with ⟨o,x,hx,rfl⟩|⟨e,ob,hi⟩
   ·rw [nF1 o x hx] at hf
    exact q3 o x hx hf
   ·rw [nF2 i (hnis i e ob hi)] at hf
    exact q4 _ _ hf
 have hOM:∀ b,En.o ⟨w,MSet objs Fc,objs,plc⟩ b→w.heap.size≤b∨∃ j x,Nw j∧look st.objs j=some x∧F j b:=fun b hb=>by
  rcases hb with hb|⟨o,x,hx,hf⟩
  ·exact .inl hb
  ·obtain ⟨y,hy⟩:=hDl o x hx
   obtain ⟨z,hz1⟩:=hDD o x hx
   exact .inr ⟨_,y,.inl ⟨o,z,hz1,rfl⟩,hy,hf⟩
 have hkk:∀ b,b < w.heap.size→(∀ i x,Nw i→look st.objs i=some x→¬ F i b)→w'.heap[b]?=w.heap[b]?:=fun b hb hnf=>hkp.block b fun ho'=>by
   rcases hOM b ho' with h|⟨j,x,hj,hx,hf⟩
   ·omega
   ·exact hnf j x hj hx hf
 obtain ⟨pl2,F2,hS',hpl2,hfree,hgo,hsame⟩:=hS.many (w':=w') (objs':=updl st.objs (renO m objs'++us)) (nv:=nv) (nF:=nF) (Nw:=Nw)
  ⟨hkp.os,hkp.tape,hkp.output,hkp.size,fun k hk=>hkp.block k fun ho'=>by
   rcases ho' with ho'|⟨o,x,hx,hf⟩
   ·exact hk (.inl (Nat.le_trans hS.below.size ho'))
   ·obtain ⟨y,hy⟩:=hDl o x hx
    exact hk (hS.range _ _ _ hy hf).1⟩
  hkk
  (fun i hi=>Zcu _ _ _ fun e b he=>by
   rcases List.mem_append.1 he with he|he
   ·obtain ⟨o,e0,b0,h5,rfl,_⟩:=Zf2.1 he
    obtain ⟨y,hy⟩:=Zct (l:=objs') (List.contains_iff_mem.2 (List.mem_map.2 ⟨_,h5,rfl⟩))
    exact hi (.inl ⟨o,y,hy,rfl⟩)
   ·exact hi (.inr ⟨e,b,he⟩))
  (fun i hi=>by
   rcases hi with ⟨o,⟨ep',ob'⟩,hx,rfl⟩|⟨e,b,hi⟩
   ·refine ⟨_,_,huniq _ _ _ (hmemr o ep' ob' hx),?_⟩
    cases hxo:look objs o with
    | some x =>
     obtain ⟨ob,rfl⟩:=hD o x hxo
     obtain ⟨ep2,ob2,h5,h6⟩:=hend.lks o ob hxo
     rw [hx] at h5
     cases h5
     refine ⟨fun ep0 ob0 h0=>?_,fun h0=>(by rw [hl o ob hxo] at h0;cases h0)⟩
     rw [hl o ob hxo] at h0
     cases h0
     rcases h6 with h6|⟨h6,h7,h8,h9⟩
     ·exact .inl (by omega)
     ·exact .inr ⟨by omega,(nv1 o _ hx).trans h7,(ZbP (P:=P) m ob').1.trans (h8.trans (ZbP (P:=P) m ob).1.symm),(ZbP m ob').2.trans (h9.trans (ZbP m ob).2.symm)⟩
    | none =>
     have h5:=List.all_eq_true.1 hnew _ (Zbw hx)
     rw [Bool.or_eq_true] at h5
     have h6:¬ (idsL objs).contains o=true:=fun h=>by
      obtain ⟨y,hy⟩:=Zct h
      rw [hxo] at hy
      cases hy
     have h7:=h5.resolve_left h6
     refine ⟨fun ep0 ob0 h0=>.inl ?_,fun h0=>?_⟩
     ·simp only [h0] at h7
      exact Nat.le_of_ble_eq_true h7
     ·simp only [h0] at h7
      exact Nat.le_of_ble_eq_true h7
   ·obtain ⟨_,j,k,fl,t,els,g1,rfl,g2,g3⟩:=Zea.1 (hmem _ _ _ hi)
    exact ⟨e,b,huniq _ _ _ (List.mem_append_right _ hi),fun ep0 ob0 h0=>.inl (by rw [g2];exact ZgQ h0),fun _=>by rw [g2];exact ZeH _⟩)
  (fun i b hi hf=>by
   rcases hi with ⟨o,x,hx,rfl⟩|⟨e,ob,hi⟩
   ·rw [nF1 o x hx] at hf
    have:=hend.range o x b hx hf
    exact ⟨this.2,hOM b this.1⟩
   ·rw [nF2 i (hnis i e ob hi)] at hf
    have:=hend.rangeF _ _ b hf
    exact ⟨this.2,hOM b this.1⟩)
  (fun i i' b hi hi' hne hf=>by
   rcases hi with ⟨o,x,hx,rfl⟩|⟨e,ob,hi⟩
   ·rw [nF1 o x hx] at hf
    rcases hi' with ⟨o',x',hx',rfl⟩|⟨e',ob',hi'⟩
    ·rw [nF1 o' x' hx']
     exact hend.apart o o' x x' b (fun e=>hne (by rw [e])) hx hx' hf
    ·rw [nF2 i' (hnis i' e' ob' hi')]
     exact fun hf'=>hend.apartM o x _ _ b hx hf' hf
   ·rw [nF2 i (hnis i e ob hi)] at hf
    rcases hi' with ⟨o',x',hx',rfl⟩|⟨e',ob',hi'⟩
    ·rw [nF1 o' x' hx']
     exact fun hf'=>hend.apartM o' x' _ _ b hx' hf hf'
    ·rw [nF2 i' (hnis i' e' ob' hi')]
     obtain ⟨hro,j,k,fl,t,els,g1,rfl,g2,g3⟩:=Zea.1 (hmem _ _ _ hi)
     obtain ⟨_,j',k',fl',t',els',g1',rfl,g2',g3'⟩:=Zea.1 (hmem _ _ _ hi')
     have hk:=ZcQ hsm g1
     have hk':=ZcQ hsm g1'
     refine hend.apartF _ _ _ _ b ?_ hf
     have e1:=hdec j k hk
     have e2:=hdec j' k' hk'
     rw [e1.1,e1.2,e2.1,e2.2]
     omega)
  (fun lk' pl3 NF hNF hlp i ep ob hi hlk=>by
   rcases hi with ⟨o,⟨ep',ob'⟩,hx,rfl⟩|⟨e,b,hi⟩
   ·have e1:=huniq _ _ _ (hmemr o ep' ob' hx)
    rw [hlk] at e1
    cases e1
    rw [nv1 o _ hx,nF1 o _ hx]
    have hh:=hend.obs o ep' ob' hx
    have hlk3:∀ o ep ob,look objs' o=some (ep,ob)→lk' (ren m o).1=some ((ren m o).2 + ep,Zeb m ob)∧pl3 (ren m o).1=pl' o:=fun o ep ob hx=>by
     obtain ⟨q1,q2⟩:=hlp (ren m o).1 (.inl ⟨o,_,hx,rfl⟩)
     exact ⟨q1.trans (huniq _ _ _ (hmemr o ep ob hx)),q2.trans (nv1 o _ hx)⟩
    by_cases hpu:ZhQ r objs'=true
    ·have hpo:ZmZ ob'=true:=by
      have h5:(ZdG r && objs'.all fun p=>ZmZ p.2.2)=true:=hpu
      rw [Bool.and_eq_true] at h5
      exact List.all_eq_true.1 h5.2 _ (Zbw hx)
     have hcell:∀ x,(match ob' with | .box _ cs=>x ∈ cs | .hole _ _ _ y=>x=y|_=>False)→(match x with | .t y=>y.cst | .rptr ..=>false|_=>true)=true:=fun x hxm=>by
      cases ob' with
      | box ty cs=>exact List.all_eq_true.1 hpo x hxm
      | hole e els q y=>subst hxm;exact hpo
      | _=>exact hxm.elim
     refine hh.renm (fun x u hxm hc=>C0.renm hlk3 (fun y e hr=>?_) (fun cs off e=>?_) hc) (fun hrow x u hr=>?_)
     ·have:=hcell x hxm
      subst e
      exact hr.cst this
     ·have:=hcell x hxm
      subst e
      cases this
     ·cases ob' with
      | row fl d e els=>rw [hrow] at hpo;cases hpo
      | _=>exact hrow.elim
    ·have hsub:=hFrM hpu NF hNF
     exact hh.renm (fun x u hxm hc=>C0.renm hlk3 (fun y e hr=>hr.mono hsub fun _ _=>rfl) (fun cs off e=>hsub) hc) (fun hrow x u hr=>hr.mono hsub fun _ _=>rfl)
   ·have e1:=huniq _ _ _ (List.mem_append_right _ hi)
    rw [hlk] at e1
    cases e1
    rw [nv2 i (hnis i _ _ hi),nF2 i (hnis i _ _ hi)]
    obtain ⟨hro,j,k,fl,t,els,g1,rfl,g2,rfl⟩:=Zea.1 (hmem _ _ _ hi)
    have hk:=ZcQ hsm g1
    have hres:=hend.res
    unfold R2m at hres
    rw [if_neg (by rw [husm _ _ _ hi];decide)] at hres
    have h5:=cellU hres g1
    refine .inl ⟨rfl,?_⟩
    rw [(hdec j k hk).1,(hdec j k hk).2]
    exact h5)
 have hval:C2 P w' (look (updl st.objs (renO m objs'++us))) pl2 (Free B W.o (look (updl st.objs (renO m objs'++us))) F2 w') v u:=by
  have hres:=hend.res
  unfold R2m at hres
  cases ho:Zcs r with
  | true =>
   rw [if_pos ho] at hres
   have hlk3:∀ o ep ob,look objs' o=some (ep,ob)→look (updl st.objs (renO m objs'++us)) (ren m o).1=some ((ren m o).2 + ep,Zeb m ob)∧pl2 (ren m o).1=pl' o:=fun o ep ob hx =>
    ⟨huniq _ _ _ (hmemr o ep ob hx),(hpl2 _ (.inl ⟨o,_,hx,rfl⟩)).trans (nv1 o _ hx)⟩
   have hv:ZfA m r=v:=by
    cases hi with
    | ptr h1 h2=>subst h2;simp [ZfA,h1]
    | hnd h1 h2=>subst h2;simp [ZfA,h1]
    | imp h1 h2=>rw [h1] at ho;cases ho
   rw [← hv]
   refine (C0.renm hlk3 (fun y e=>?_) (fun cs off e=>?_) hres).c2
   ·subst e;cases ho
   ·subst e;cases ho
  | false =>
   rw [if_neg (by rw [ho];decide)] at hres
   have hus':us=upd2 false (look st.objs) (1000 * d) r:=by rw [hus,if_neg (by rw [ho];decide)]
   have hv:imp2 false (look st.objs) site r=v:=by
    cases hi with
    | ptr=>cases ho
    | hnd=>cases ho
    | imp h1 h2=>exact h2.eq.1
   rw [← hv]
   refine ZoD hres (fun j k y x hcell hrd=>?_) (fun j k fl e els hcell hro=>?_) (fun j k b hro hb=>by cases hro)
   ·by_cases hpu:ZhQ r objs'=true
    ·have h5:(ZdG r && objs'.all fun p=>ZmZ p.2.2)=true:=hpu
     rw [Bool.and_eq_true] at h5
     exact hrd.flat (ZhR h5.1 hcell)
    ·exact hrd.mono (hFrM hpu _ hfree) fun _ _=>rfl
   ·have hm:(site + j * 64 + k,nep (look st.objs (site + j * 64 + k)),Ob.row fl true e els) ∈ us:=by rw [hus'];exact Zea.2 ⟨rfl,j,k,fl,e,els,hcell,rfl,rfl,rfl⟩
    have hk:=ZcQ hsm hcell
    refine ⟨huniq _ _ _ (List.mem_append_right _ hm),(hpl2 _ (.inr ⟨_,_,hm⟩)).trans ?_⟩
    rw [nv2 _ (hnis _ _ _ hm),(hdec j k hk).1,(hdec j k hk).2]
 have h4:=hS'.put hval o.dst
 rw [← Zml] at h4
 refine hn _ _ _ _ _ _ h4 ?_ hKK
 rw [Ze4]
 refine ⟨hgo.more,hgo.heap,fun i x b hx hno hf=>?_⟩
 have hnN:¬ Nw i:=fun hN=>by
  rcases hN with ⟨q,y,hy,rfl⟩|⟨e,ob,he⟩
  ·exact hno _ _ (hmemr q y.1 y.2 hy)
  ·exact hno e ob (List.mem_append_right _ he)
 exact ⟨by rw [hsame i hnN];exact hf,hkk b (hS.range i x b hx hf).2 fun j y hj hy hf'=>hS.apart i j _ _ b (fun e=>hnN (by rw [e];exact hj)) hx hy hf hf'⟩
theorem pU3 {X:Prop} (r:X:=by first|((repeat' (first|exact trivial|refine And.intro ?_ ?_|rfl));done)|fail):X:=r
theorem pU15 {X:Prop} (r:X:=by first|exact ecfc rfl|exact ef62 rfl|exact rfl):X:=r
theorem pU9 {X:Prop} (r:X:=by first|((repeat' (first|exact RenR.nil|exact RenL.nil|(apply RenR.row;(focus exact rfl);(focus exact (by exact pU15)))|(apply RenR.box;(focus exact rfl);(focus exact (by exact pU15)))|(apply RenR.gone;(focus exact rfl);(focus exact (by exact pU15)))|(apply RenL.hnd;(focus exact rfl);(focus exact (by exact pU15)))|(apply RenL.ptr;(focus exact rfl);(focus exact (by exact pU15)))|(apply RenL.view;(focus exact rfl);(focus exact (by exact pU15)))|(apply RenL.other;(focus exact rfl))));done)|fail):X:=r
theorem pU16 {X:Prop} (r:X:=by first|((repeat' (first|exact trivial|exact Or.inl ⟨rfl,rfl⟩|exact Or.inr ⟨rfl,Or.inl rfl⟩|exact Or.inr ⟨rfl,_,_,_,_,rfl,rfl⟩|exact Or.inr ⟨rfl,_,_,_,_,rfl,(by exact pU7),rfl⟩|exact Or.inr ⟨rfl,rfl⟩|exact Or.inr ⟨rfl,Or.inr ⟨rfl,_,_,rfl⟩⟩|refine And.intro ?_ ?_));done)|fail):X:=r
theorem pU20 {X:Prop} (r:X:=by first|exact Imp3.ptr rfl (by exact pU15)|exact Imp3.hnd rfl (by exact pU15)|exact Imp3.imp rfl (by first|exact Imp2.other rfl rfl rfl|exact Imp2.fr (by exact pU17)|exact Imp2.agg (by exact pU1)|exact Imp2.tup (by exact pU1))):X:=r
theorem Zca {c:Call} {g:FuncId} {objs objs':List (Nat×Nat×Ob)} {as_:List V} {r v:V} {d:Nat} {m:List (Nat×Nat×Nat)} {us us':List (Nat×Nat×Ob)} (hA:AM P g objs as_ objs' r) (hK:KE v (us'++us)) (ho:o.op=.call c:=by exact rfl) (hd:o.dst=some d:=by exact rfl) (hc:c.callee=.value (.func g):=by exact rfl) (hs:Znp m (look st.objs) (c.args.toList.map st.ev) as_:=by exact pU16) (hob:leO st.objs (renO m objs):=by exact pU3) (hid:((as_.flatMap ids1).all fun o=>(idsL objs).contains o)=true:=by exact rfl) (hcl:((objs.flatMap fun p=>ZgB p.2.2).all fun o=>(idsL objs).contains o)=true:=by exact rfl) (hinj:nodupB (idsL (renO m objs))=true:=by exact rfl) (hi:Imp3 m (look st.objs) (1000 * d) r v us:=by exact pU20) (hnd:nodupB (idsL (renO m objs'++us))=true:=by exact rfl) (hnew:Zer st m objs objs'=true:=by exact rfl) (hp:(ZhQ r objs'=true∧((ZgX (c.args.toList.map st.ev) as_).all fun o=>!(idsL (renO m objs)).contains o)=true)∨ZgX (c.args.toList.map st.ev) as_=[]:=by first|exact .inr rfl|exact .inl ⟨rfl,rfl⟩) (hsm:ZdY r=true:=by exact rfl) (hin:((idsL objs).all fun o=>(idsL objs').contains o)=true:=by exact rfl) (hre:RenR m objs' us':=by exact pU9):OpS P B W o st KE:=
 OpS.call_mutP ho hd hc hA hs hob hid hcl (hp.elim (fun h=>.inr ⟨fun _ _=>h.1,h.2⟩) .inl) hinj fun _ _=>⟨v,us,us',hi,hnd,hnew,hp,hsm,hin,hre,hK⟩
end
def Zl0 (fs:List (Nat×Nat)):List V→List (Nat×V)→Option (List V)
 | cs,[]=>some cs
 | cs,(i,v) :: r=>match fs[i]? with
  | some (off,n)=>if ((ZaT v).all V.sto && Nat.beq (ZaT v).length n && Nat.ble (off + n) cs.length)=true then Zl0 fs (setRange cs off (ZaT v)) r else none
  | none=>none
theorem ZhL {P:Program}:∀ {gs:List Field},(∀ f ∈ gs,P.cellsOf f.type ≠ 0)→gs.mapM (fun f=>(P.info? f.type).map fun i=>(f.offset,i.size))=some (gs.map fun f=>(f.offset,P.cellsOf f.type))
 | [],_=>rfl
 | f :: gs,h=>by
  have ih:=ZhL (gs:=gs) fun x hx=>h x (by simp [hx])
  have h0:=h f (by simp)
  cases hi:P.info? f.type with
  | none=>exact absurd (by simp [Program.cellsOf,hi]) h0
  | some i=>simp [List.mapM_cons,hi,ih,Program.cellsOf]
section
variable {P:Program} {B:Nat→Prop} {W:En} {o:Oper} {os:List Nat} {st:St} {KE:V→List (Nat×Nat×Ob)→Prop}
theorem Zou (us vs:List Value) (off:Nat) (h:off + vs.length≤us.length):((vs.toArray.zipIdx.foldl (fun cs (x:Value×Nat)=>cs.setIfInBounds (off + x.2) x.1) us.toArray))=(setRange us off vs).toArray:=by
 have h1:=Great.foldl_set off vs 0 us.toArray
 have h2:vs.toArray.zipIdx.foldl (fun cs (x:Value×Nat)=>cs.setIfInBounds (off + x.2) x.1) us.toArray=(vs.zipIdx 0).foldl (fun cs (x:Value×Nat)=>cs.setIfInBounds (off + x.2) x.1) us.toArray:=by
  simp
 rw [h2]
 apply Array.ext'
 apply List.ext_getElem?
 intro k
 rw [Array.getElem?_toList,h1.2 k,Zby _ _ _ _ h]
 simp only [Nat.add_zero,List.size_toArray,List.getElem?_toArray]
 by_cases hk:off≤k∧k < off + vs.length
 ·rw [if_pos ⟨hk.1,hk.2,by omega⟩,if_pos hk]
 ·rw [if_neg (fun e=>hk ⟨e.1,e.2.1⟩),if_neg hk]
theorem SimW.fill {a:Act} {w:World} {pl:Nat→Value} {F:Nat→Nat→Prop} (hs:SimW P B W st a w pl F) {fs:List (Nat×Nat)}:∀ {xs:List (Nat×Operand)} {cs cs':List V} {us:List Value},Pw (C0 P w (look st.objs) pl (Free B W.o (look st.objs) F w)) cs us →
  Zl0 fs cs (xs.map fun p=>(p.1,st.ev p.2))=some cs'→∃ us',Instr.fill (fs.toArray[·]?) us.toArray (xs.map fun p=>(p.1,a.eval p.2))=some us'.toArray∧Pw (C0 P w (look st.objs) pl (Free B W.o (look st.objs) F w)) cs' us'
 | [],cs,cs',us,hp,h=>by
  cases h
  exact ⟨us,rfl,hp⟩
 | (i,x) :: xs,cs,cs',us,hp,h=>by
  simp only [List.map_cons,Zl0] at h
  split at h
  ·rename_i off n hf
   split at h
   ·rename_i hc
    rw [Bool.and_eq_true,Bool.and_eq_true] at hc
    obtain ⟨⟨c1,c2⟩,c3⟩:=hc
    have c2:=Nat.eq_of_beq_eq_true c2
    have c3:=Nat.le_of_ble_eq_true c3
    obtain ⟨vs,g1,g2,_⟩:=((hs.ev x).c1 c1).cells c1
    have hvl:vs.length=n:=by rw [g2.1,c2]
    have hul:us.length=cs.length:=hp.1
    obtain ⟨us',k1,k2⟩:=SimW.fill hs (hp.setRange g2 off) h
    refine ⟨us',?_,k2⟩
    simp only [List.map_cons,Instr.fill]
    have hf':fs.toArray[i]?=some (off,n):=by simpa using hf
    rw [hf']
    simp only []
    have hsz:(a.eval x).cells.size=n:=by rw [g1];simpa using hvl
    rw [if_neg (by rw [hsz];simp;omega),g1,Zou us vs off (by omega)]
    exact k1
   ·cases h
  ·cases h
inductive NormL:List V→List V→Prop
 | nil:NormL [] []
 | cons {c d:V} {cs ds:List V}:c=d→NormL cs ds→NormL (c :: cs) (d :: ds)
theorem NormL.eq {cs ds:List V} (h:NormL cs ds):cs=ds:=by
 induction h with
 | nil=>rfl
 | cons h _ ih=>rw [h,ih]
theorem OpQ.build {t:TypeId} {parts:Array (Nat×Operand)} {xs:List (Nat×Operand)} {y:Ty} {fs:List (Nat×Nat)} {zs cs0 cs:List V} (ho:o.op=.build t parts) (hxs:parts.toList=xs) (hy:Zac P t=some y) (hk:y.k=.struct fs) (hz:y.zero=some zs) (hnz:fs.all (fun p=>!Nat.beq p.2 0)=true)
  (hf:Zl0 fs zs (xs.map fun p=>(p.1,st.ev p.2))=some cs0) (hN:NormL cs0 cs) (hK:KE (.agg cs) []):OpQ P B W o os st KE :=
 OpQ.pure_ hK fun a w pl F hs=>by
  subst hxs
  obtain rfl:=hN.eq
  obtain ⟨gs,h1,h2⟩:=Znc hy hk
  obtain ⟨d,i,hd,hi,_,_,_,hzero⟩:=Zaw hy
  rw [hz] at hzero
  obtain ⟨z,hz1,hz2⟩:=Option.map_eq_some_iff.1 hzero.symm
  have hpz:Pw (C0 P w (look st.objs) pl (Free B W.o (look st.objs) F w)) zs z.cells.toList:=by
   rw [← hz2]
   refine ⟨by simp,fun k x u hx hu=>?_⟩
   rw [List.getElem?_map,hu] at hx
   cases hx
   exact ZeE u
  obtain ⟨us',k1,k2⟩:=SimW.fill hs hpz hf
  have hpl:gs.toList.mapM (fun f=>(P.info? f.type).map fun i=>(f.offset,i.size))=some fs:=by
   rw [h2]
   refine ZhL fun f hf0=>?_
   have:=List.all_eq_true.1 hnz (f.offset,P.cellsOf f.type) (by rw [h2];exact List.mem_map.2 ⟨f,hf0,rfl⟩)
   exact Nat.ne_of_beq_eq_false (by simpa using this)
  refine ⟨.agg us'.toArray,fun w'=>?_,us',rfl,k2.1,fun k v x hv hx=>k2.2 k v x hv hx⟩
  unfold execOp
  rw [ho]
  refine Zap (run_build w' t _ us'.toArray ?_)
  unfold Program.built
  rw [hi,h1]
  simp only [hz1,hpl]
  have e1:(parts.map fun x=>(x.1,a.eval x.2)).toList=parts.toList.map fun p=>(p.1,a.eval p.2):=by simp
  rw [e1]
  simpa using k1
end
section
variable {P:Program} {B:Nat→Prop} {W:En} {st:St} {a:Act} {w:World} {Q:Exit→St→Prop}
def Zco (P:Program) (B:Nat→Prop) (W:En) (st st':St):Prop:=∀ a w,Sim P B W st a w→Sim P B W st' a w
theorem aW.ghost {c:Code} {st':St} (h:Zco P B W st st') (hw:aW P B W c Q st'):aW P B W c Q st:=fun a w hs=>hw a w (h a w hs)
theorem aL.ghost {ops:Array Oper} {l:List Oper} {K:St→Prop} {st':St} (h:Zco P B W st st') (hw:aL P B W ops l K st'):aL P B W ops l K st:=fun a w hs=>hw a w (h a w hs)
theorem Zkr {o ep j ej:Nat} {ob obj:Ob} (hne:j ≠ o) {ob0:Ob} (hl:look st.objs o=some (ep,ob0)) (hrow:ob.isRow=ob0.isRow) (hesz:esz P ob=esz P ob0) (hej:nep (look st.objs j)=ej)
  (h:∀ a w pl F,SimW P B W st a w pl F→∃ (v:Value) (F1 F2:Nat→Prop),(∀ b,F1 b→F o b∨∃ x,look st.objs j=some x∧F j b)∧(∀ b,F2 b→F o b∨∃ x,look st.objs j=some x∧F j b)∧(∀ b,F1 b→¬ F2 b) ∧
   ∀ lk' pl' Fr',(∀ b,Free B W.o (look st.objs) F w b→Fr' b)→lk' o=some (ep,ob)→lk' j=some (ej,obj)→pl' o=pl o→pl' j=v→ObR P w (C0 P w lk' pl' Fr') (Rd P w Fr') (pl o) F1 ob∧ObR P w (C0 P w lk' pl' Fr') (Rd P w Fr') v F2 obj) :
  Zco P B W st (st.upds [(o,ep,ob),(j,ej,obj)]):=fun a w ⟨pl,F,hs⟩=>by
 classical
 subst hej
 obtain ⟨v,F1,F2,h1,h2,h3,h4⟩:=h a w pl F hs
 have hlo:look (updl st.objs [(o,ep,ob),(j,nep (look st.objs j),obj)]) o=some (ep,ob):=by
  show look ((j,_,obj) :: (o,ep,ob) :: st.objs) o=_
  rw [ZaB,if_neg hne,ZaB,if_pos rfl]
 have hlj:look (updl st.objs [(o,ep,ob),(j,nep (look st.objs j),obj)]) j=some (nep (look st.objs j),obj):=by
  show look ((j,_,obj) :: (o,ep,ob) :: st.objs) j=_
  rw [ZaB,if_pos rfl]
 have nvo:∀ {α:Type} (x y:α),(if o=o then x else y)=x:=fun x y=>if_pos rfl
 have hN1:∀ (k:Nat),(k=o∨k=j)→k ≠ o→k=j:=fun k h h'=>h.resolve_left h'
 obtain ⟨pl',F',h5,_⟩:=hs.many (w':=w) (objs':=updl st.objs [(o,ep,ob),(j,nep (look st.objs j),obj)]) (nv:=fun k=>if k=o then pl o else v) (nF:=fun k=>if k=o then F1 else F2) (Nw:=fun k=>k=o∨k=j)
  (Kp.refl _ _) (fun _ _ _=>rfl)
  (fun k hk=>by
   show look ((j,_,obj) :: (o,ep,ob) :: st.objs) k=_
   rw [ZaB,if_neg fun e=>hk (.inr e.symm),ZaB,if_neg fun e=>hk (.inl e.symm)])
  (fun k hk=>by
   by_cases hko:k=o
   ·subst hko
    refine ⟨ep,ob,hlo,fun ep0 ob0' h0=>.inr ?_,fun h0=>(by rw [hl] at h0;cases h0)⟩
    rw [hl] at h0
    cases h0
    exact ⟨rfl,if_pos rfl,hrow,hesz⟩
   ·have hkj:=hN1 k hk hko
    subst hkj
    exact ⟨_,obj,hlj,fun ep0 ob0' h0=>.inl (ZgQ h0),fun _=>ZeH _⟩)
  (fun k b hk hf=>by
   have h6:F o b∨∃ x,look st.objs j=some x∧F j b:=by
    by_cases hko:k=o
    ·simp only [if_pos hko] at hf;exact h1 b hf
    ·simp only [if_neg hko] at hf;exact h2 b hf
   rcases h6 with h6|⟨x,hx,h6⟩
   ·exact ⟨(hs.range _ _ _ hl h6).2,.inr ⟨o,_,.inl rfl,hl,h6⟩⟩
   ·exact ⟨(hs.range _ _ _ hx h6).2,.inr ⟨j,_,.inr rfl,hx,h6⟩⟩)
  (fun k k' b hk hk' hne' hf hf'=>by
   by_cases hko:k=o
   ·simp only [if_pos hko] at hf
    have hk'o:k' ≠ o:=fun e=>hne' (hko.trans e.symm)
    simp only [if_neg hk'o] at hf'
    exact h3 b hf hf'
   ·simp only [if_neg hko] at hf
    by_cases hk'o:k'=o
    ·simp only [if_pos hk'o] at hf'
     exact h3 b hf' hf
    ·exact hne' ((hN1 k hk hko).trans (hN1 k' hk' hk'o).symm))
  (fun lk' pl' Fr' hFr hlp k e b hk hlk=>by
   have hle:∀ b,Free B W.o (look st.objs) F w b→Fr' b:=fun b hb=>hFr b (.inl hb) hb.2.1 fun i hi hf=>by
    by_cases hio:i=o
    ·simp only [if_pos hio] at hf
     rcases h1 b hf with h6|⟨x,hx,h6⟩
     ·exact hb.2.2 _ _ hl h6
     ·exact hb.2.2 _ _ hx h6
    ·simp only [if_neg hio] at hf
     rcases h2 b hf with h6|⟨x,hx,h6⟩
     ·exact hb.2.2 _ _ hl h6
     ·exact hb.2.2 _ _ hx h6
   obtain ⟨q1,q2⟩:=hlp o (.inl rfl)
   obtain ⟨q3,q4⟩:=hlp j (.inr rfl)
   obtain ⟨r1,r2⟩:=h4 lk' pl' Fr' hle (q1.trans hlo) (q3.trans hlj) (q2.trans (if_pos rfl)) (q4.trans (if_neg hne))
   by_cases hko:k=o
   ·subst hko
    rw [hlo] at hlk
    cases hlk
    simp only [if_pos rfl]
    exact r1
   ·have hkj:=hN1 k hk hko
    subst hkj
    rw [hlj] at hlk
    cases hlk
    simp only [if_neg hko]
    exact r2)
 exact ⟨pl',F',h5⟩
theorem Zco.open_ {o ep j ej q:Nat} {fl:Bool} {e e':TypeId} {els els':List (List T)} (hl:look st.objs o=some (ep,.row false true e els)) (hq:els.flatten[q]?=some (.lst fl e' els')) (hne:j ≠ o) (hej:nep (look st.objs j)=ej) :
  Zco P B W st (st.upds [(o,ep,.hole e els q (.hnd j ej)),(j,ej,.row fl true e' els')]):=by
 refine Zkr hne hl rfl rfl hej fun a w pl F hs=>?_
 rcases hs.objs o _ _ hl with ⟨_,h5⟩|⟨h5,_⟩
 case inr=>cases h5
 generalize hpl:pl o=vo at *
 cases h5 with
 | flat hf=>cases hf
 | lst us fs s1 s2 s3 s4 s5 s6 s7 s8 =>
 have hlt:q < us.length:=by rw [← s4];exact (List.getElem?_eq_some_iff.1 hq).1
 have hcell:=s5 q _ _ hq (List.getElem?_eq_getElem hlt)
 refine ⟨us[q],fun b=>vo.ownBlock=some b∨∃ k,k ≠ q∧fs k b,fs q,fun b hb=>.inl ((s8 b).2 (hb.imp id fun ⟨k,_,h⟩=>⟨k,h⟩)),fun b hb=>.inl ((s8 b).2 (.inr ⟨q,hb⟩)),fun b hb hb'=>?_,fun lk' pl' Fr' _ l1 l2 p1 p2=>⟨?_,.inl ⟨rfl,hcell⟩⟩⟩
 ·rcases hb with hb|⟨k,hk,hb⟩
  ·exact s7 q b hb' hb
  ·exact s6 k q b hk hb hb'
 ·refine ⟨us,fs,s1,s2,s4,fun k y u _ hy hu=>s5 k y u hy hu,fun u hu=>?_,fun k k' b hk _ _=>s6 k k' b hk,fun k b _ hb=>s7 k b hb,fun b=>Iff.rfl,hlt⟩
  rw [List.getElem?_eq_getElem hlt] at hu
  cases hu
  exact ⟨hcell.one,_,_,l2,Nat.le_refl _,fun _=>⟨rfl,p2.symm⟩⟩
theorem Zco.close {o ep j ej q i c:Nat} {fl:Bool} {e e':TypeId} {els els' els2:List (List T)} {s:Nat} (hl:look st.objs o=some (ep,.hole e els q (.hnd j ej))) (hj:look st.objs j=some (ej,.row fl true e' els')) (hne:j ≠ o) (hs:P.cellsOf e=s) (hq:q=i * s + c) (hc:c < s) (hi:i < els.length) (h2:els2=els.set i ((els.getD i []).set c (.lst fl e' els'))) :
  Zco P B W st (st.upds [(o,ep,.row false true e els2),(j,ej + 1,.gone)]):=by
 refine Zkr hne hl rfl rfl (by rw [hj];rfl) fun a w pl F hS=>?_
 obtain ⟨us,fs,s1,s2,s3,s4,s5,s6,s7,s8,s9⟩:=hS.objs o _ _ hl
 subst h2
 have huni:∀ x ∈ els.set i ((els.getD i []).set c (.lst fl e' els')),x.length=P.cellsOf e:=fun x hx=>by
  rcases List.mem_or_eq_of_mem_set hx with hx|rfl
  ·exact s2 x hx
  ·rw [List.length_set];exact s2 _ (ZbT hi)
 have hset:(els.set i ((els.getD i []).set c (.lst fl e' els'))).flatten=els.flatten.set q (.lst fl e' els'):=by
  have h0:(els.getD i []).length=P.cellsOf e:=s2 _ (ZbT hi)
  have e1:(els.getD i []).set c (.lst fl e' els')=setRange (els.getD i []) c [.lst fl e' els']:=by
   unfold setRange
   rw [List.set_eq_take_append_cons_drop,if_pos (by omega)]
   simp
  rw [e1,Zd4 s2 hi (by simp;omega),hs,← hq]
  unfold setRange
  rw [List.set_eq_take_append_cons_drop,if_pos (by rw [s3];exact s9)]
  simp
 have hju:us[q]?=some us[q]:=List.getElem?_eq_getElem s9
 obtain ⟨hone,ep',ob',k1,k2,k3⟩:C0 P w (look st.objs) pl (Free B W.o (look st.objs) F w) (.hnd j ej) us[q]:=s5 _ hju
 rw [hj] at k1
 cases k1
 have hju2:=(k3 rfl).2
 have hrow:Ow P w (.lst fl e' els') (pl j) (F j):=by
  rcases hS.objs j _ _ hj with ⟨_,h5⟩|⟨h5,_⟩
  ·exact h5
  ·cases h5
 have hap:∀ k b,k ≠ q→fs k b→¬ F j b:=fun k b hk hb hf=>hS.apart j o _ _ b hne hj hl hf ((s8 b).2 (.inr ⟨k,hk,hb⟩))
 refine ⟨.slice none 0 0,fun b=>F o b∨F j b,fun _=>False,fun b hb=>hb.imp id fun h=>⟨_,hj,h⟩,fun b hb=>hb.elim,fun b _ hb=>hb,fun lk' pl' Fr' _ l1 l2 p1 p2=>⟨?_,fun _ h=>h⟩⟩
 refine .inl ⟨rfl,.lst us (fun k=>if k=q then F j else fs k) (by rw [List.length_set];exact s1) huni (fun h=>by cases h) (by rw [hset,List.length_set];exact s3) (fun k x u hx hu=>?_) (fun k k' b hkk hb hb'=>?_) (fun k b hb ht=>?_) fun b=>?_⟩
 ·rw [hset] at hx
  by_cases hk:k=q
  ·subst hk
   rw [List.getElem?_set_self (by rw [s3];exact s9)] at hx
   cases hx
   rw [hju] at hu
   cases hu
   show Ow P w _ _ (if k=k then F j else fs k)
   rw [if_pos rfl,hju2]
   exact hrow
  ·rw [List.getElem?_set_ne (Ne.symm hk)] at hx
   show Ow P w _ _ (if k=q then F j else fs k)
   rw [if_neg hk]
   exact s4 k x u hk hx hu
 ·by_cases hk:k=q
  ·rw [if_pos hk] at hb
   by_cases hk':k'=q
   ·omega
   ·rw [if_neg hk'] at hb'
    exact hap k' b hk' hb' hb
  ·rw [if_neg hk] at hb
   by_cases hk':k'=q
   ·rw [if_pos hk'] at hb'
    exact hap k b hk hb hb'
   ·rw [if_neg hk'] at hb'
    exact s6 k k' b hkk hk hk' hb hb'
 ·by_cases hk:k=q
  ·rw [if_pos hk] at hb
   exact hS.apart j o _ _ b hne hj hl hb ((s8 b).2 (.inl ht))
  ·rw [if_neg hk] at hb
   exact s7 k b hk hb ht
 ·constructor
  ·rintro (hb|hb)
   ·rcases (s8 b).1 hb with h|⟨k,hk,h⟩
    ·exact .inl h
    ·exact .inr ⟨k,by show (if k=q then F j else fs k) b;rw [if_neg hk];exact h⟩
   ·exact .inr ⟨q,by show (if q=q then F j else fs q) b;rw [if_pos rfl];exact hb⟩
  ·rintro (hb|⟨k,hb⟩)
   ·exact .inl ((s8 b).2 (.inl hb))
   ·by_cases hk:k=q
    ·rw [if_pos hk] at hb;exact .inr hb
    ·rw [if_neg hk] at hb;exact .inl ((s8 b).2 (.inr ⟨k,hk,hb⟩))
end
section
variable {P:Program} {B:Nat→Prop} {W:En} {o:Oper} {os:List Nat} {st:St} {KE:V→List (Nat×Nat×Ob)→Prop}
theorem OpQ.len_hole {x:Operand} {t:TypeId} {c:Call} {i ep q:Nat} {z:V} {e':Nat} {els:List (List T)} {e es eb:Nat} {y:Ty} (ho:o.op=.call c) (h1:c.callee=.builtin .len) (h2:c.args=#[x]) (h3:c.argTypes=#[t]) (hy:Zac P t=some y) (hk:y.k=.slice e es eb) (hx:st.ev x=.hnd i ep) (hl:look st.objs i=some (ep,.hole e' els q z)) {m:Nat} (hm:els.length=m) (hK:KE (.t (.int .i64 m)) []):OpQ P B W o os st KE :=
 OpQ.pure_ hK fun a w pl F hs=>by
  subst hm
  have h4:=hs.ev x
  rw [hx] at h4
  obtain ⟨_,ep',ob,h5,h6,h7⟩:C0 P w (look st.objs) pl (Free B W.o (look st.objs) F w) (.hnd i ep) (a.eval x):=h4
  rw [hl] at h5
  cases h5
  obtain ⟨us,fs,s1,s2,s3,s4,s5,s6,s7,s8,s9⟩:=hs.objs i _ _ hl
  obtain ⟨A,cc,g2,g3,g4,_⟩:=Zbm s1
  exact ⟨_,fun _=>Zdz ho h1 h2 h3 hy hk ((h7 rfl).2.trans g2),Rd.int (ZeU (Nat.le_trans g3 g4))⟩
theorem OpQ.index_hole {t:TypeId} {x ix:Operand} {i ep q:Nat} {z:V} {els:List (List T)} {n:Int} {k:IntKind} {e es eb e' m:Nat} {y:Ty} (ho:o.op=.indexAddr t x ix) (hx:st.ev x=.hnd i ep) (hl:look st.objs i=some (ep,.hole e' els q z)) (hi:st.ev ix=.t (.int k n)) (hy:Zac P t=some y) (hk:y.k=.slice e es eb) (hes:es ≠ 0) (he:e'=e)
  (hm:n=(m:Int)) (hlt:m < els.length) (hK:KE (.ptr i ep m 0) []):OpQ P B W o os st KE :=
 OpQ.pure_ hK fun a w pl F hs=>by
  subst he hm
  have h4:=hs.ev x
  rw [hx] at h4
  obtain ⟨_,ep',ob,h5,h6,h7⟩:C0 P w (look st.objs) pl (Free B W.o (look st.objs) F w) (.hnd i ep) (a.eval x):=h4
  rw [hl] at h5
  cases h5
  obtain ⟨us,fs,s1,s2,s3,s4,s5,s6,s7,s8,s9⟩:=hs.objs i _ _ hl
  obtain ⟨A,c,g2,g3,g4,g5⟩:=Zbm s1
  have hes':P.cellsOf e'=es:=(ZaM hy hk).2.1
  obtain ⟨g,off,rfl,g6,g7,g8⟩:=g5 fun e=>by rw [e] at s9;simp at s9
  refine ⟨_,fun _=>ZbR ho hy hk hes ((h7 rfl).2.trans g2) (hs.int_at hi).1 (by omega),rfl,_,_,hl,Nat.le_refl _,fun _=>⟨g,off,g7,?_⟩⟩
  rw [ZaS,Int.toNat_natCast]
  simp [esz,hes']
theorem OpS.len_hole {x:Operand} {t:TypeId} {c:Call} {i ep q:Nat} {z:V} {e':Nat} {els:List (List T)} {e es eb:Nat} {y:Ty} (ho:o.op=.call c) (h1:c.callee=.builtin .len) (h2:c.args=#[x]) (h3:c.argTypes=#[t]) (hy:Zac P t=some y) (hk:y.k=.slice e es eb) (hx:st.ev x=.hnd i ep) (hl:look st.objs i=some (ep,.hole e' els q z)) {m:Nat} (hm:els.length=m) (hK:KE (.t (.int .i64 m)) []):OpS P B W o st KE:=(OpQ.len_hole ho h1 h2 h3 hy hk hx hl hm hK).s
theorem OpS.index_hole {t:TypeId} {x ix:Operand} {i ep q:Nat} {z:V} {els:List (List T)} {n:Int} {k:IntKind} {e es eb e' m:Nat} {y:Ty} (ho:o.op=.indexAddr t x ix) (hx:st.ev x=.hnd i ep) (hl:look st.objs i=some (ep,.hole e' els q z)) (hi:st.ev ix=.t (.int k n)) (hy:Zac P t=some y) (hk:y.k=.slice e es eb) (hes:es ≠ 0) (he:e'=e)
  (hm:n=(m:Int)) (hlt:m < els.length) (hK:KE (.ptr i ep m 0) []):OpS P B W o st KE:=(OpQ.index_hole ho hx hl hi hy hk hes he hm hlt hK).s
theorem OpS.load_hole {ty:TypeId} {x:Operand} {i ep n off q:Nat} {z:V} {e:TypeId} {els:List (List T)} {y:Ty} {v:V} {s:Nat} (ho:o.op=.load ty x) (hx:st.ev x=.ptr i ep n off) (hl:look st.objs i=some (ep,.hole e els q z)) (hy:Zac P ty=some y) {ye:Ty} (hye:Zac P e=some ye) (hs:ye.size=s) (hq:q=n * s + off) (hsz:y.size=1)
  (hv:(if y.k.agg then V.agg [z] else z)=v) (hK:KE v []):OpS P B W o st KE :=
 OpS.pure_ hK fun a w pl F h=>by
  have hes:P.cellsOf e=s:=by rw [ZeD hye,hs]
  have h4:=h.ev x
  rw [hx] at h4
  obtain ⟨_,ep',ob,h5,h6,h7⟩:C0 P w (look st.objs) pl (Free B W.o (look st.objs) F w) (.ptr i ep n off) (a.eval x):=h4
  rw [hl] at h5
  cases h5
  obtain ⟨g,bb,hg,hu⟩:=h7 rfl
  obtain ⟨us,fs,s1,s2,s3,s4,s5,s6,s7,s8,s9⟩:=h.objs i _ _ hl
  obtain ⟨A,c,g2,g3,g4,g5⟩:=Zbm s1
  obtain ⟨g',off',rfl,g6,g7,g8⟩:=g5 fun e=>by rw [e] at s9;simp at s9
  rw [g7] at hg
  cases hg
  have hcell:=g8 q _ (List.getElem?_eq_getElem s9)
  have hadr:bb + (n * esz P (.hole e els q z) + off)=bb + q:=by simp only [esz,hes,hq]
  rw [hadr] at hu
  have hc:=s5 _ (List.getElem?_eq_getElem s9)
  obtain ⟨u,k1,k2⟩:=Zcw hy (cs:=[z]) (off:=0) (v:=v) (by unfold Zdp;subst hv;cases y.k.agg<;>simp [hsz]) ⟨g,bb + q,none⟩ (lk:=look st.objs) (pl:=pl) (Fr:=Free B W.o (look st.objs) F w) (w:=w) fun j zz hz=>by
   cases j with
   | zero =>
    simp at hz
    subst hz
    exact ⟨_,by simpa [Addr.add] using hcell,hc⟩
   | succ j=>simp at hz
  exact ⟨u,Zdh ho hu k1,k2⟩
end
theorem beqAll {es:Nat} {els:List (List T)} (h:(els.all fun x=>Nat.beq x.length es)=true):∀ x ∈ els,x.length=es:=fun x hx=>Nat.eq_of_beq_eq_true (List.all_eq_true.1 h x hx)
section
variable {P:Program} {B:Nat→Prop} {W:En} {o:Oper} {os:List Nat} {st:St} {KE:V→List (Nat×Nat×Ob)→Prop}
theorem OpS.lit {t:TypeId} {len:Nat} {parts:Array (Nat×Operand)} {xs:List Operand} {y ye:Ty} {e es eb site ep:Nat} {zs:List V} {ts:List T} {ks:List (Nat×Nat)} {d0 d fl:Bool} {els:List (List T)} {kl:List (Nat×Nat×Ob)}
  (ho:o.op=.buildSlice t len parts) (hd:o.dst=some site) (hparts:parts.toList=(xs.zipIdx 0).map fun p=>(p.2,p.1)) (hlen:xs.length=len) (hy:Zac P t=some y) (hk:y.k=.slice e es eb) (hye:Zac P e=some ye) (hz:ye.zero=some zs) (hzl:zs.length=es) (hes:Nat.blt 0 es=true) (hsm:Nat.ble (len * es) 16777216=true)
  (hsto:(xs.map st.ev).all (fun v=>(ZaT v).all V.sto && Nat.beq (ZaT v).length es)=true) (hcv:cvt (look st.objs) ((xs.map st.ev).flatMap ZaT)=some (ts,ks,d0)) (hd0:d0=d) (hnd:nodupB (ks.map (·.1))=true) (hks:(ks.all fun p=>!Nat.beq p.1 site)=true)
  (hel:els.flatten=ts) (hell:els.length=len) (hu:(els.all fun x=>Nat.beq x.length es)=true) (hfl:ts.all T.flat=fl) (hep:nep (look st.objs site)=ep) (hkl:ZdT ks=kl) (hK:KE (.hnd site ep) ((site,ep,.row fl d e els) :: kl)):OpS P B W o st KE:=by
 subst hd0 hkl
 refine OpS.buildSlice ho hd hparts hlen hy hk hye hz hzl (Nat.le_of_ble_eq_true hes) (Nat.le_of_ble_eq_true hsm) rfl ?_ hcv (ZdW hnd) (fun x e hx hs=>?_) hel hell (beqAll hu) hfl hep hK
 ·rw [List.all_eq_true] at hsto ⊢
  intro v hv
  have:=hsto v hv
  rw [Bool.and_eq_true] at this ⊢
  exact ⟨this.1,decide_eq_true (Nat.eq_of_beq_eq_true this.2)⟩
 ·have:=List.all_eq_true.1 hks _ hx
  subst hs
  simp at this
theorem Zpj {a:Act} {w:World} {pl:Nat→Value} {F:Nat→Nat→Prop} (h:SimW P B W st a w pl F) {x:Operand} {fl:Bool} {e:TypeId} {els:List (List T)} (hx:st.ev x=.t (.lst fl e els)):(∀ x ∈ els,x.length=P.cellsOf e)∧(fl=true→∀ x ∈ els.flatten,x.flat=true):=by
 obtain ⟨A,c,us,h1,h2,h3,h4,h5,_⟩:=h.lst_at hx
 exact ⟨h4,h5⟩
theorem ZdI {a:Act} {w:World} {pl:Nat→Value} {F:Nat→Nat→Prop} (h:SimW P B W st a w pl F) {i ep:Nat} {fl d:Bool} {e:TypeId} {els:List (List T)} (hl:look st.objs i=some (ep,.row fl d e els)):(∀ x ∈ els,x.length=P.cellsOf e)∧(fl=true→∀ x ∈ els.flatten,x.flat=true):=by
 obtain ⟨us,hp⟩:=ZbX (h.objs i _ _ hl)
 exact ⟨hp.uni,hp.flt⟩
theorem ZjO {s:List UInt8}:(∀ x ∈ (s.map fun c=>[T.int .u8 (c.toNat:Nat)]),x.length=1)∧∀ x ∈ (s.map fun c=>[T.int .u8 (c.toNat:Nat)]).flatten,x.flat=true :=
 ⟨fun x hx=>by obtain ⟨c,_,rfl⟩:=List.mem_map.1 hx;rfl,fun x hx=>by
  obtain ⟨l,hl,hx⟩:=List.mem_flatten.1 hx
  obtain ⟨c,_,rfl⟩:=List.mem_map.1 hl
  rw [List.mem_singleton.1 hx]
  rfl⟩
theorem Zju {α:Type} {els:List (List α)} {j n:Nat} {x:List α} (h:x ∈ (els.drop j).take n):x ∈ els:=List.mem_of_mem_drop (List.mem_of_mem_take h)
theorem Zjs {els:List (List T)} {j n:Nat} {x:T} (h:x ∈ ((els.drop j).take n).flatten):x ∈ els.flatten:=by
 obtain ⟨l,hl,hx⟩:=List.mem_flatten.1 h
 exact List.mem_flatten.2 ⟨l,Zju hl,hx⟩
theorem pU8 {X:Prop} (r:X:=by first|exact List.length_map _|exact ee70 rfl|exact e0de rfl|exact e1bc rfl|exact e614 rfl|exact rfl):X:=r
theorem pU13 {X:Prop} (r:X:=by first|exact eb32 rfl|exact e689 rfl):X:=r
theorem qdb42 {s x:Operand} {c:Call} {t xt e es eb site ep:Nat} {y yx ye:Ty} {zs:List V} {fl:Bool} {e2 n:Nat} {els els':List (List T)} {flr dr:Bool} (hK:KE (.hnd site ep) ((site,ep,.row flr dr e els') :: [])) (ho:o.op=.call c:=by exact rfl) (hd:o.dst=some site:=by exact rfl) (h1:c.callee=.builtin .append:=by exact rfl) (h2:c.args=#[s,x]:=by exact rfl) (h3:c.argTypes=#[t,xt]:=by exact rfl) (hy:Zac P t=some y:=by exact Tryz.ti rfl) (hk:y.k=.slice e es eb:=by exact rfl) (hyx:Zac P xt=some yx:=by exact Tryz.ti rfl) (hkx:yx.k=.str∨∃ a b c,yx.k=.slice a b c:=by first|exact .inl rfl|exact .inr ⟨_,_,_,rfl⟩) (hye:Zac P e=some ye:=by exact Tryz.ti rfl) (hz:ye.zero=some zs:=by exact rfl) (hzl:zs.length=es:=by exact rfl) (hs:st.ev s=.t .nil:=by exact rfl) (hx:st.ev x=.t (.lst fl e2 els):=by exact rfl) (he2:e2=e:=by exact rfl) (hn:els.length=n:=by exact pU8) (hfit:fits 0 n eb:=by refine And.intro ?_ ?_<;>(first|omega|(simp;omega)|(simp [Zao];omega))) (hflr:fl=flr:=by exact pU13) (hdr:fl=dr:=by exact pU13) (hels:els=els':=by exact rfl) (hep:nep (look st.objs site)=ep:=by exact pU17):OpS P B W o st KE:=by
 have hes:P.cellsOf e=es:=(ZaM hy hk).2.1
 subst hflr hdr hels
 subst he2 hn
 have hln:(els).length=els.length:=rfl
 have hsrc:∀ a w pl F,SimW P B W st a w pl F→Zdo P B W st a w F x es els [] fl:=fun a w pl F h=>by rw [← hes];exact h.src_lst hx
 have huni:∀ a w pl F,SimW P B W st a w pl F→(∀ y ∈ els,y.length=es)∧(fl=true→∀ y ∈ (els).flatten,y.flat=true):=fun a w pl F h=>by rw [← hes];exact Zpj h hx
 exact OpS.append_nil (ks:=[]) (fl:=fl) (d:=fl) ho hd h1 h2 h3 hy hk hyx hkx hye hz hzl hs hsrc huni (fun x e h=>by cases h) (by rw [hln];exact hfit) hep hK
theorem qdd53 {s x:Operand} {c:Call} {t xt e e0 es eb i ep n1:Nat} {y yx ye:Ty} {zs:List V} {els0:List (List T)} {d0 fl0:Bool} {fl:Bool} {e2 n:Nat} {els els':List (List T)} {flr dr:Bool} (hK:KE (.hnd i (ep + 1)) ((i,ep + 1,.row flr dr e els') :: [])) (ho:o.op=.call c:=by exact rfl) (h1:c.callee=.builtin .append:=by exact rfl) (h2:c.args=#[s,x]:=by exact rfl) (h3:c.argTypes=#[t,xt]:=by exact rfl) (hy:Zac P t=some y:=by exact Tryz.ti rfl) (hk:y.k=.slice e es eb:=by exact rfl) (hyx:Zac P xt=some yx:=by exact Tryz.ti rfl) (hkx:yx.k=.str∨∃ a b c,yx.k=.slice a b c:=by first|exact .inl rfl|exact .inr ⟨_,_,_,rfl⟩) (hye:Zac P e=some ye:=by exact Tryz.ti rfl) (hz:ye.zero=some zs:=by exact rfl) (hzl:zs.length=es:=by exact rfl) (hs:st.ev s=.hnd i ep:=by exact rfl) (hl:look st.objs i=some (ep,.row fl0 d0 e0 els0):=by exact rfl) (he0:e0=e:=by exact rfl) (hn1:els0.length=n1:=by exact pU8) (hx:st.ev x=.t (.lst fl e2 els):=by exact rfl) (he2:e2=e:=by exact rfl) (hn:els.length=n:=by exact pU8) (hfit:fits n1 n eb:=by refine And.intro ?_ ?_<;>(first|omega|(simp;omega)|(simp [Zao];omega))) (hflr:(fl0 && fl)=flr:=by exact pU13) (hdr:(d0 && fl)=dr:=by exact pU13) (hels:els0++els=els':=by exact rfl):OpS P B W o st KE:=by
 have hes:P.cellsOf e=es:=(ZaM hy hk).2.1
 subst hflr hdr hels hn1 he0
 subst he2 hn
 have hln:(els).length=els.length:=rfl
 have hsrc:∀ a w pl F,SimW P B W st a w pl F→Zdo P B W st a w F x es els [] fl:=fun a w pl F h=>by rw [← hes];exact h.src_lst hx
 have huni:∀ a w pl F,SimW P B W st a w pl F→(∀ y ∈ els,y.length=es)∧(fl=true→∀ y ∈ (els).flatten,y.flat=true):=fun a w pl F h=>by rw [← hes];exact Zpj h hx
 exact OpS.append_hnd (ks:=[]) (fl:=fl0 && fl) (d:=fl) (d':=d0 && fl) ho h1 h2 h3 hy hk hyx hkx hye hz hzl hs hl rfl hsrc (fun a w pl F h=>⟨(huni a w pl F h).1,fun hf=>(huni a w pl F h).2 (Eq.mp (Bool.and_eq_true _ _) hf).2⟩) (fun x e h=>by cases h) (by rw [hln];exact hfit) (fun hf=>(Eq.mp (Bool.and_eq_true _ _) hf).1) (fun hf=>Eq.mp (Bool.and_eq_true _ _) hf) hK
theorem q3c36 {s x:Operand} {c:Call} {t xt e e0 es eb i ep n1:Nat} {y yx ye:Ty} {zs:List V} {els0:List (List T)} {d0 fl0:Bool} {b:List UInt8} {n:Nat} {els':List (List T)} {flr dr:Bool} (hK:KE (.hnd i (ep + 1)) ((i,ep + 1,.row flr dr e els') :: [])) (ho:o.op=.call c:=by exact rfl) (h1:c.callee=.builtin .append:=by exact rfl) (h2:c.args=#[s,x]:=by exact rfl) (h3:c.argTypes=#[t,xt]:=by exact rfl) (hy:Zac P t=some y:=by exact Tryz.ti rfl) (hk:y.k=.slice e es eb:=by exact rfl) (hyx:Zac P xt=some yx:=by exact Tryz.ti rfl) (hkx:yx.k=.str∨∃ a b c,yx.k=.slice a b c:=by first|exact .inl rfl|exact .inr ⟨_,_,_,rfl⟩) (hye:Zac P e=some ye:=by exact Tryz.ti rfl) (hz:ye.zero=some zs:=by exact rfl) (hzl:zs.length=es:=by exact rfl) (hs:st.ev s=.hnd i ep:=by exact rfl) (hl:look st.objs i=some (ep,.row fl0 d0 e0 els0):=by exact rfl) (he0:e0=e:=by exact rfl) (hn1:els0.length=n1:=by exact pU8) (hx:st.ev x=.t (.str b):=by exact rfl) (hes1:es=1:=by exact rfl) (hn:b.length=n:=by exact rfl) (hfit:fits n1 n eb:=by refine And.intro ?_ ?_<;>(first|omega|(simp;omega)|(simp [Zao];omega))) (hflr:(fl0 && true)=flr:=by exact pU13) (hdr:(d0 && true)=dr:=by exact pU13) (hels:els0++(b.map fun c=>[T.int .u8 (c.toNat:Nat)])=els':=by exact rfl):OpS P B W o st KE:=by
 have hes:P.cellsOf e=es:=(ZaM hy hk).2.1
 subst hflr hdr hels hn1 he0
 subst hn
 have hln:((b.map fun c=>[T.int .u8 (c.toNat:Nat)])).length=b.length:=by simp
 have hsrc:∀ a w pl F,SimW P B W st a w pl F→Zdo P B W st a w F x es (b.map fun c=>[T.int .u8 (c.toNat:Nat)]) [] true:=fun a w pl F h=>by subst hes1;exact h.src_str hx
 have huni:∀ a w pl F,SimW P B W st a w pl F→(∀ y ∈ (b.map fun c=>[T.int .u8 (c.toNat:Nat)]),y.length=es)∧(true=true→∀ y ∈ ((b.map fun c=>[T.int .u8 (c.toNat:Nat)])).flatten,y.flat=true):=fun a w pl F h=>by subst hes1;exact ⟨ZjO.1,fun _=>ZjO.2⟩
 exact OpS.append_hnd (ks:=[]) (fl:=fl0 && true) (d:=true) (d':=d0 && true) ho h1 h2 h3 hy hk hyx hkx hye hz hzl hs hl rfl hsrc (fun a w pl F h=>⟨(huni a w pl F h).1,fun hf=>(huni a w pl F h).2 (Eq.mp (Bool.and_eq_true _ _) hf).2⟩) (fun x e h=>by cases h) (by rw [hln];exact hfit) (fun hf=>(Eq.mp (Bool.and_eq_true _ _) hf).1) (fun hf=>Eq.mp (Bool.and_eq_true _ _) hf) hK
theorem q4d67 {s x:Operand} {c:Call} {t xt e e0 es eb i ep n1:Nat} {y yx ye:Ty} {zs:List V} {els0:List (List T)} {d0 fl0:Bool} {fl d:Bool} {j ej e2 n:Nat} {els els':List (List T)} {flr dr:Bool} (hK:KE (.hnd i (ep + 1)) ((i,ep + 1,.row flr dr e els') :: [])) (ho:o.op=.call c:=by exact rfl) (h1:c.callee=.builtin .append:=by exact rfl) (h2:c.args=#[s,x]:=by exact rfl) (h3:c.argTypes=#[t,xt]:=by exact rfl) (hy:Zac P t=some y:=by exact Tryz.ti rfl) (hk:y.k=.slice e es eb:=by exact rfl) (hyx:Zac P xt=some yx:=by exact Tryz.ti rfl) (hkx:yx.k=.str∨∃ a b c,yx.k=.slice a b c:=by first|exact .inl rfl|exact .inr ⟨_,_,_,rfl⟩) (hye:Zac P e=some ye:=by exact Tryz.ti rfl) (hz:ye.zero=some zs:=by exact rfl) (hzl:zs.length=es:=by exact rfl) (hs:st.ev s=.hnd i ep:=by exact rfl) (hl:look st.objs i=some (ep,.row fl0 d0 e0 els0):=by exact rfl) (he0:e0=e:=by exact rfl) (hn1:els0.length=n1:=by exact pU8) (hx:st.ev x=.hnd j ej:=by exact rfl) (hlx:look st.objs j=some (ej,.row fl d e2 els):=by exact rfl) (hfd:fl=true∨d=false:=by exact pU21) (he2:e2=e:=by exact rfl) (hn:els.length=n:=by exact pU8) (hfit:fits n1 n eb:=by refine And.intro ?_ ?_<;>(first|omega|(simp;omega)|(simp [Zao];omega))) (hflr:(fl0 && fl)=flr:=by exact pU13) (hdr:(d0 && fl)=dr:=by exact pU13) (hels:els0++els=els':=by exact rfl):OpS P B W o st KE:=by
 have hes:P.cellsOf e=es:=(ZaM hy hk).2.1
 subst hflr hdr hels hn1 he0
 subst he2 hn
 have hln:(els).length=els.length:=rfl
 have hsrc:∀ a w pl F,SimW P B W st a w pl F→Zdo P B W st a w F x es els [] fl:=fun a w pl F h=>by rw [← hes];exact h.src_hnd hx hlx hfd
 have huni:∀ a w pl F,SimW P B W st a w pl F→(∀ y ∈ els,y.length=es)∧(fl=true→∀ y ∈ (els).flatten,y.flat=true):=fun a w pl F h=>by rw [← hes];exact ZdI h hlx
 exact OpS.append_hnd (ks:=[]) (fl:=fl0 && fl) (d:=fl) (d':=d0 && fl) ho h1 h2 h3 hy hk hyx hkx hye hz hzl hs hl rfl hsrc (fun a w pl F h=>⟨(huni a w pl F h).1,fun hf=>(huni a w pl F h).2 (Eq.mp (Bool.and_eq_true _ _) hf).2⟩) (fun x e h=>by cases h) (by rw [hln];exact hfit) (fun hf=>(Eq.mp (Bool.and_eq_true _ _) hf).1) (fun hf=>Eq.mp (Bool.and_eq_true _ _) hf) hK
theorem q0778 {s x:Operand} {c:Call} {t xt e e0 es eb i ep n1:Nat} {y yx ye:Ty} {zs:List V} {els0:List (List T)} {d0 fl0:Bool} {fl d:Bool} {j ej k0 n0 e2 n:Nat} {els els':List (List T)} {flr dr:Bool} (hK:KE (.hnd i (ep + 1)) ((i,ep + 1,.row flr dr e els') :: [])) (ho:o.op=.call c:=by exact rfl) (h1:c.callee=.builtin .append:=by exact rfl) (h2:c.args=#[s,x]:=by exact rfl) (h3:c.argTypes=#[t,xt]:=by exact rfl) (hy:Zac P t=some y:=by exact Tryz.ti rfl) (hk:y.k=.slice e es eb:=by exact rfl) (hyx:Zac P xt=some yx:=by exact Tryz.ti rfl) (hkx:yx.k=.str∨∃ a b c,yx.k=.slice a b c:=by first|exact .inl rfl|exact .inr ⟨_,_,_,rfl⟩) (hye:Zac P e=some ye:=by exact Tryz.ti rfl) (hz:ye.zero=some zs:=by exact rfl) (hzl:zs.length=es:=by exact rfl) (hs:st.ev s=.hnd i ep:=by exact rfl) (hl:look st.objs i=some (ep,.row fl0 d0 e0 els0):=by exact rfl) (he0:e0=e:=by exact rfl) (hn1:els0.length=n1:=by exact pU8) (hx:st.ev x=.view j ej k0 n0:=by exact rfl) (hlx:look st.objs j=some (ej,.row fl d e2 els):=by exact rfl) (hfd:fl=true∨d=false:=by exact pU21) (he2:e2=e:=by exact rfl) (hjn:k0 + n0≤els.length:=by exact pU7) (hn:n0=n:=by exact rfl) (hfit:fits n1 n eb:=by refine And.intro ?_ ?_<;>(first|omega|(simp;omega)|(simp [Zao];omega))) (hflr:(fl0 && fl)=flr:=by exact pU13) (hdr:(d0 && fl)=dr:=by exact pU13) (hels:els0++((els.drop k0).take n0)=els':=by exact rfl):OpS P B W o st KE:=by
 have hes:P.cellsOf e=es:=(ZaM hy hk).2.1
 subst hflr hdr hels hn1 he0
 subst he2 hn
 have hln:(((els.drop k0).take n0)).length=n0:=by rw [List.length_take,List.length_drop];omega
 have hsrc:∀ a w pl F,SimW P B W st a w pl F→Zdo P B W st a w F x es ((els.drop k0).take n0) [] fl:=fun a w pl F h=>by rw [← hes];exact h.src_view hx hlx hfd hjn
 have huni:∀ a w pl F,SimW P B W st a w pl F→(∀ y ∈ ((els.drop k0).take n0),y.length=es)∧(fl=true→∀ y ∈ (((els.drop k0).take n0)).flatten,y.flat=true):=fun a w pl F h=>by rw [← hes];exact ⟨fun x hx=>(ZdI h hlx).1 x (Zju hx),fun hf x hx=>(ZdI h hlx).2 hf x (Zjs hx)⟩
 exact OpS.append_hnd (ks:=[]) (fl:=fl0 && fl) (d:=fl) (d':=d0 && fl) ho h1 h2 h3 hy hk hyx hkx hye hz hzl hs hl rfl hsrc (fun a w pl F h=>⟨(huni a w pl F h).1,fun hf=>(huni a w pl F h).2 (Eq.mp (Bool.and_eq_true _ _) hf).2⟩) (fun x e h=>by cases h) (by rw [hln];exact hfit) (fun hf=>(Eq.mp (Bool.and_eq_true _ _) hf).1) (fun hf=>Eq.mp (Bool.and_eq_true _ _) hf) hK
theorem qe9f8 {s x:Operand} {c:Call} {t xt e e0 es eb i ep n1:Nat} {y yx ye:Ty} {zs:List V} {els0:List (List T)} {d0 fl0:Bool} {fl:Bool} {j ej e2 n:Nat} {els els':List (List T)} {flr dr:Bool} (hK:KE (.hnd i (ep + 1)) ((i,ep + 1,.row flr dr e els') :: [(j,ej + 1,.gone)])) (ho:o.op=.call c:=by exact rfl) (h1:c.callee=.builtin .append:=by exact rfl) (h2:c.args=#[s,x]:=by exact rfl) (h3:c.argTypes=#[t,xt]:=by exact rfl) (hy:Zac P t=some y:=by exact Tryz.ti rfl) (hk:y.k=.slice e es eb:=by exact rfl) (hyx:Zac P xt=some yx:=by exact Tryz.ti rfl) (hkx:yx.k=.str∨∃ a b c,yx.k=.slice a b c:=by first|exact .inl rfl|exact .inr ⟨_,_,_,rfl⟩) (hye:Zac P e=some ye:=by exact Tryz.ti rfl) (hz:ye.zero=some zs:=by exact rfl) (hzl:zs.length=es:=by exact rfl) (hs:st.ev s=.hnd i ep:=by exact rfl) (hl:look st.objs i=some (ep,.row fl0 d0 e0 els0):=by exact rfl) (he0:e0=e:=by exact rfl) (hn1:els0.length=n1:=by exact pU8) (hx:st.ev x=.hnd j ej:=by exact rfl) (hlx:look st.objs j=some (ej,.row fl true e2 els):=by exact rfl) (he2:e2=e:=by exact rfl) (hn:els.length=n:=by exact pU8) (hne0:Nat.beq j i=false:=by exact rfl) (hfit:fits n1 n eb:=by refine And.intro ?_ ?_<;>(first|omega|(simp;omega)|(simp [Zao];omega))) (hflr:(fl0 && fl)=flr:=by exact pU13) (hdr:(d0 && true)=dr:=by exact pU13) (hels:els0++els=els':=by exact rfl):OpS P B W o st KE:=by
 have hes:P.cellsOf e=es:=(ZaM hy hk).2.1
 have hne:=Nat.ne_of_beq_eq_false hne0
 subst hflr hdr hels hn1 he0
 subst he2 hn
 have hln:(els).length=els.length:=rfl
 have hsrc:∀ a w pl F,SimW P B W st a w pl F→Zdo P B W st a w F x es els [(j,ej)] true:=fun a w pl F h=>by rw [← hes];exact h.src_move hx hlx
 have huni:∀ a w pl F,SimW P B W st a w pl F→(∀ y ∈ els,y.length=es)∧(fl=true→∀ y ∈ (els).flatten,y.flat=true):=fun a w pl F h=>by rw [← hes];exact ZdI h hlx
 exact OpS.append_hnd (ks:=[(j,ej)]) (fl:=fl0 && fl) (d:=true) (d':=d0 && true) ho h1 h2 h3 hy hk hyx hkx hye hz hzl hs hl rfl hsrc (fun a w pl F h=>⟨(huni a w pl F h).1,fun hf=>(huni a w pl F h).2 (Eq.mp (Bool.and_eq_true _ _) hf).2⟩) (fun x e h=>by simp at h;obtain ⟨rfl,_⟩:=h;exact hne) (by rw [hln];exact hfit) (fun hf=>(Eq.mp (Bool.and_eq_true _ _) hf).1) (fun hf=>Eq.mp (Bool.and_eq_true _ _) hf) hK
theorem aA.cut {os:List Nat} {ops:Array Oper} {n0 n:Nat} {ls0 ls:Array Bool} {K:St→Prop} {st0 s:St} (rest:aA P B W ops os n ls K s→aA P B W ops os n0 ls0 K st0) (main:aA P B W ops os n ls K s):aA P B W ops os n0 ls0 K st0:=rest main
theorem aA.to {os:List Nat} {ops:Array Oper} {n n':Nat} {ls ls':Array Bool} {K:St→Prop} {s:St} (hl:ls=ls') (hn:n=n') (h:aA P B W ops os n' ls' K s):aA P B W ops os n ls K s:=by subst hl hn;exact h
theorem aA.weak {os:List Nat} {ops:Array Oper} {n:Nat} {ls:Array Bool} {K:St→Prop} {s s':St} (h:aA P B W ops os n ls K s') (hl:Le s s'):aA P B W ops os n ls K s:=fun w0 X a w pl F hs hX=>by
 obtain hs':=hs.weak hl
 refine h w0 X a w pl F hs' fun b hb=>?_
 obtain ⟨h1,h2⟩:=hX b hb
 refine ⟨?_,h2⟩
 rcases h1 with h1|⟨i,hi,x,hx,hf⟩
 ·exact .inl ⟨h1.1,h1.2.1,fun o x ho=>h1.2.2 o x (hl.objs o x ho)⟩
 ·cases hy:look s'.objs i with
  | some y=>exact .inr ⟨i,hi,y,hy,hf⟩
  | none =>
   have hr:=hs.range i x b hx hf
   refine .inl ⟨.inr hr.1,hr.2,fun o z hz hfz=>?_⟩
   have hne:i ≠ o:=fun e=>by rw [e,hz] at hy;cases hy
   exact hs.apart i o x z b hne hx (hl.objs o z hz) hf hfz
end
section
variable {P:Program} {B:Nat→Prop} {W:En} {o:Oper} {os:List Nat} {st:St} {KE:V→List (Nat×Nat×Ob)→Prop}
theorem Zec {t:TypeId} {y:Ty} (hy:Zac P t=some y) {w:World} {lk:Nat→Option (Nat×Ob)} {pl:Nat→Value} {Fr:Nat→Prop} {cs:List V} {off:Nat} {v:V} (hv:Zdp y.k.agg y.size cs off=some v) (ad:Addr)
  (hc:∀ (j:Nat) (x:V),cs[off + j]?=some x→∃ u,w.cell? (ad.add j)=some u∧C0 P w lk pl Fr x u):∃ u,(∀ w',(∀ (j:Nat) (x:V),cs[off + j]?=some x→w'.cell? (ad.add j)=w.cell? (ad.add j))→(loadVar t ad).run P w'=.ok u w')∧C2 P w lk pl Fr v u:=by
 unfold Zdp at hv
 cases hag:y.k.agg
 ·rw [hag] at hv
  simp only [Bool.false_eq_true,if_false] at hv
  obtain ⟨u,h1,h2⟩:=hc 0 v (by simpa using hv)
  refine ⟨u,fun w' hw'=>?_,h2.c2⟩
  have h3:=hw' 0 v (by simpa using hv)
  rw [h1] at h3
  have h1':w'.cell? ad=some u:=by simpa [Addr.add] using h3
  unfold loadVar
  rw [Sem.run_bind,ZfC w' hy,Result.andThen_ok,hag]
  simp only [Bool.false_eq_true,if_false]
  rw [run_load,h1']
 ·rw [hag] at hv
  simp only [if_true] at hv
  split at hv
  ·rename_i hle
   cases hv
   have hx:∀ j,j < y.size→∃ u,w.cell? (ad.add j)=some u∧∀ x,cs[off + j]?=some x→C0 P w lk pl Fr x u:=fun j hj=>by
    have hlt:off + j < cs.length:=by omega
    obtain ⟨u,h1,h2⟩:=hc j _ (List.getElem?_eq_getElem hlt)
    exact ⟨u,h1,fun x hx=>by rw [List.getElem?_eq_getElem hlt] at hx;cases hx;exact h2⟩
   let f:Nat→Value:=fun j=>(w.cell? (ad.add j)).getD undef
   have hf:∀ j,j < y.size→w.cell? (ad.add j)=some (f j):=fun j hj=>by
    obtain ⟨u,h1,_⟩:=hx j hj
    show _=some ((w.cell? (ad.add j)).getD undef)
    rw [h1];rfl
   refine ⟨.agg ((List.range y.size).map f).toArray,fun w' hw'=>?_,?_⟩
   ·unfold loadVar
    rw [Sem.run_bind,ZfC w' hy,Result.andThen_ok,hag]
    simp only [if_true]
    rw [Sem.run_bind,ZeO w' hy,Result.andThen_ok,Sem.run_bind,run_loadCells w' ad y.size f fun j hj=>(hw' j _ (List.getElem?_eq_getElem (show off + j < cs.length by omega))).trans (hf j hj),Result.andThen_ok]
    rfl
   ·refine ⟨(List.range y.size).map f,rfl,by simp;omega,fun k x u h1 h2=>?_⟩
    rw [List.getElem?_take] at h1
    split at h1
    ·rename_i hk
     rw [List.getElem?_drop] at h1
     rw [List.getElem?_map,List.getElem?_range hk] at h2
     obtain ⟨u',h3,h4⟩:=hx k hk
     have:u=u':=by
      have h5:=hf k hk
      rw [h3] at h5
      cases h2
      exact (Option.some.inj h5).symm
     rw [this]
     exact h4 x h1
    ·cases h1
  ·cases hv
inductive FillN (fs:List (Nat×Nat)):List V→List (Nat×V)→List V→Prop
 | nil {cs:List V}:FillN fs cs [] cs
 | cons {cs cs1 cs' vs:List V} {i off n:Nat} {v v':V} {r:List (Nat×V)}:v=v'→fs[i]?=some (off,n)→ZaT v'=vs→vs.all V.sto=true→Nat.beq vs.length n=true→Nat.ble (off + n) cs.length=true→Ab.setRange cs off vs=cs1→FillN fs cs1 r cs'→FillN fs cs ((i,v) :: r) cs'
theorem FillN.eq {fs:List (Nat×Nat)} {cs cs':List V} {l:List (Nat×V)} (h:FillN fs cs l cs'):Zl0 fs cs l=some cs':=by
 induction h with
 | nil=>rfl
 | cons hv hf hc hs hn hle hr _ ih =>
  subst hv
  unfold Zl0
  rw [hf]
  simp only [hc,hs,hn,hle,Bool.and_self,if_true,hr]
  exact ih
theorem NormL.refl_:∀ cs:List V,NormL cs cs
 | []=>.nil
 | _ :: r=>.cons rfl (NormL.refl_ r)
theorem FillN.step {fs:List (Nat×Nat)} {cs cs1 cs' vs:List V} {i off n:Nat} {v v':V} {r:List (Nat×V)} (hv:v=v') (hf:fs[i]?=some (off,n)) (hc:ZaT v'=vs) (hs:vs.all V.sto=true) (hn:Nat.beq vs.length n=true) (hle:Nat.ble (off + n) cs.length=true) (hr:Ab.setRange cs off vs=cs1) (h:FillN fs cs1 r cs'):FillN fs cs ((i,v) :: r) cs':=.cons hv hf hc hs hn hle hr h
theorem OpQ.build2 {t:TypeId} {parts:Array (Nat×Operand)} {xs:List (Nat×Operand)} {y:Ty} {fs:List (Nat×Nat)} {zs cs:List V} (ho:o.op=.build t parts) (hxs:parts.toList=xs) (hy:Zac P t=some y) (hk:y.k=.struct fs) (hz:y.zero=some zs) (hnz:fs.all (fun p=>!Nat.beq p.2 0)=true)
  (hF:FillN fs zs (xs.map fun p=>(p.1,st.ev p.2)) cs) (hK:KE (.agg cs) []):OpQ P B W o os st KE:=OpQ.build ho hxs hy hk hz hnz hF.eq (NormL.refl_ cs) hK
theorem OpS.build2 {t:TypeId} {parts:Array (Nat×Operand)} {xs:List (Nat×Operand)} {y:Ty} {fs:List (Nat×Nat)} {zs cs:List V} (ho:o.op=.build t parts) (hxs:parts.toList=xs) (hy:Zac P t=some y) (hk:y.k=.struct fs) (hz:y.zero=some zs) (hnz:fs.all (fun p=>!Nat.beq p.2 0)=true)
  (hF:FillN fs zs (xs.map fun p=>(p.1,st.ev p.2)) cs) (hK:KE (.agg cs) []):OpS P B W o st KE:=(OpQ.build2 (os:=[]) ho hxs hy hk hz hnz hF hK).s
theorem OpQ.held {v:V} (hK:KE v []) (h:OpP P B W o os st v):OpQ P B W o os st KE:=⟨v,hK,h⟩
theorem OpQ.load_rptr {ty:TypeId} {x:Operand} {off:Nat} {cs:List T} {y:Ty} {v:V} (ho:o.op=.load ty x) (hx:st.ev x=.rptr cs off) (hy:Zac P ty=some y)
  (hv:Zdp y.k.agg y.size (cs.map .t) off=some v) (hK:KE v []):OpQ P B W o os st KE :=
 OpQ.held hK fun a w pl F hs=>by
  have h1:=hs.ev x
  rw [hx] at h1
  obtain ⟨ad,h2,h3⟩:C0 P w (look st.objs) pl (Free B W.o (look st.objs) F w) (.rptr cs off) (a.eval x):=h1
  obtain ⟨u,h9,h10⟩:=Zec hy hv ad (lk:=look st.objs) (pl:=pl) (Fr:=Free B W.o (look st.objs) F w) (w:=w) fun j z hz=>by
   rw [List.getElem?_map,Option.map_eq_some_iff] at hz
   obtain ⟨q,hq,rfl⟩:=hz
   obtain ⟨_,u,hu,hr⟩:=h3 j q hq
   exact ⟨u,hu,hr⟩
  refine ⟨u,fun w' hw'=>Zdh ho h2 (h9 w' fun j z hz=>?_),h10⟩
  rw [List.getElem?_map,Option.map_eq_some_iff] at hz
  obtain ⟨q,hq,rfl⟩:=hz
  exact World.cell?_of_block (by rw [Za0];exact hw' _ (.inl (h3 j q hq).1))
theorem OpQ.load_box {ty:TypeId} {x:Operand} {i ep off:Nat} {bt:TypeId} {cs:List V} {y:Ty} {v:V} (ho:o.op=.load ty x) (hx:st.ev x=.ptr i ep 0 off) (hl:look st.objs i=some (ep,.box bt cs)) (hos:os.contains i=true) (hy:Zac P ty=some y)
  (hv:Zdp y.k.agg y.size cs off=some v) (hK:KE v []):OpQ P B W o os st KE :=
 OpQ.held hK fun a w pl F hs=>by
  have h1:=hs.ev x
  rw [hx] at h1
  obtain ⟨_,ep',ob,h2,h3,h4⟩:C0 P w (look st.objs) pl (Free B W.o (look st.objs) F w) (.ptr i ep 0 off) (a.eval x):=h1
  rw [hl] at h2
  cases h2
  obtain ⟨g,bb,hg,hu⟩:=h4 rfl
  obtain ⟨g',us,h5,h6,h7,h8⟩:=hs.objs i _ _ hl
  rw [h5] at hg
  simp only [blk,Option.some.injEq,Prod.mk.injEq] at hg
  obtain ⟨rfl,rfl⟩:=hg
  obtain ⟨u,h9,h10⟩:=Zec hy hv ⟨g',0 + (0 * esz P (.box bt cs) + off),none⟩ (lk:=look st.objs) (pl:=pl) (Fr:=Free B W.o (look st.objs) F w) (w:=w) fun j z hz=>by
   obtain ⟨u,hu1,hu2⟩:=Pw.at_ (R:=C0 P w (look st.objs) pl (Free B W.o (look st.objs) F w)) ⟨h8.1,h8.2⟩ hz
   refine ⟨u,?_,hu2⟩
   rw [ZaS,cell_of_row w g' _ _ _ _ h7]
   simpa using hu1
  exact ⟨u,fun w' hw'=>Zdh ho hu (h9 w' fun j z hz=>World.cell?_of_block (by rw [Za0];exact hw' g' (.inr ⟨i,List.contains_iff_mem.1 hos,_,hl,(h6 g').2 rfl⟩))),h10⟩
theorem OpQ.load_row {ty:TypeId} {x:Operand} {i ep n off:Nat} {fl d:Bool} {e:TypeId} {els:List (List T)} {y:Ty} {v:V} (ho:o.op=.load ty x) (hx:st.ev x=.ptr i ep n off) (hl:look st.objs i=some (ep,.row fl d e els)) (hos:os.contains i=true) (hfd:fl=true∨d=false) (hn:n < els.length) (hy:Zac P ty=some y)
  (hv:Zdp y.k.agg y.size ((els.getD n []).map .t) off=some v) (hK:KE v []):OpQ P B W o os st KE :=
 OpQ.held hK fun a w pl F hs=>by
  have h1:=hs.ev x
  rw [hx] at h1
  obtain ⟨_,ep',ob,h2,h3,h4⟩:C0 P w (look st.objs) pl (Free B W.o (look st.objs) F w) (.ptr i ep n off) (a.eval x):=h1
  rw [hl] at h2
  cases h2
  obtain ⟨g,bb,hg,hu⟩:=h4 rfl
  obtain ⟨us,hp⟩:=ZbX (hs.objs i _ _ hl)
  obtain ⟨u,h9,h10⟩:=Zec hy hv ⟨g,bb + (n * esz P (.row fl d e els) + off),none⟩ (lk:=look st.objs) (pl:=pl) (Fr:=Free B W.o (look st.objs) F w) (w:=w) fun j z hz=>by
   rw [List.getElem?_map,Option.map_eq_some_iff] at hz
   obtain ⟨q,hq,rfl⟩:=hz
   obtain ⟨g',bb',c,u,h5,h6,h7,h8,h9⟩:=hp.cell hn hq
   rw [h5] at hg
   simp only [blk,Option.some.injEq,Prod.mk.injEq] at hg
   obtain ⟨rfl,rfl⟩:=hg
   refine ⟨u,by rw [ZaS];simpa [esz,Nat.add_assoc] using h7,?_⟩
   rcases hfd with hf|hd
   ·exact (hp.rd _ _ _ h9 h8).flat (hp.flt hf _ (List.mem_of_getElem? h9))
   ·exact hp.shr hd _ _ _ h9 h8
  refine ⟨u,fun w' hw'=>Zdh ho hu (h9 w' fun j z hz=>World.cell?_of_block ?_),h10⟩
  rw [List.getElem?_map,Option.map_eq_some_iff] at hz
  obtain ⟨q,hq,rfl⟩:=hz
  obtain ⟨g',bb',c,u',h5,h6,h7,h8,h9'⟩:=hp.cell hn hq
  rw [h5] at hg
  simp only [blk,Option.some.injEq,Prod.mk.injEq] at hg
  obtain ⟨rfl,rfl⟩:=hg
  rw [Za0]
  exact hw' g' (.inr ⟨i,List.contains_iff_mem.1 hos,_,hl,hp.top _ (by rw [h5];rfl)⟩)
theorem OpQ.load_elem {ty:TypeId} {x:Operand} {i ep n off:Nat} {fl d:Bool} {e:TypeId} {els:List (List T)} {y:Ty} {v:V} {cs:List T} (ho:o.op=.load ty x) (hx:st.ev x=.ptr i ep n off) (hl:look st.objs i=some (ep,.row fl d e els)) (hos:os.contains i=true) (hfd:fl=true∨d=false) (hc:els[n]?=some cs) (hy:Zac P ty=some y)
  (hv:Zdp y.k.agg y.size (cs.map .t) off=some v) (hK:KE v []):OpQ P B W o os st KE:=by
 have hlt:n < els.length:=(List.getElem?_eq_some_iff.1 hc).1
 have:els.getD n []=cs:=by rw [List.getD_eq_getElem?_getD,hc];rfl
 exact OpQ.load_row ho hx hl hos hfd hlt hy (by rw [this];exact hv) hK
theorem OpQ.add_str {t t':TypeId} {x y:Operand} {m n:List UInt8} (ho:o.op=.binOp .add t x y t') (hx:st.ev x=.t (.str m)) (hy:st.ev y=.t (.str n)) (hl:m.length + n.length≤maxLen) (hK:KE (.t (.str (m++n))) []):OpQ P B W o os st KE :=
 OpQ.pure_ hK fun a w pl F hs=>by
  refine ⟨.string (bs (m++n)),fun w'=>?_,Rd.str (by rw [List.length_append];exact hl)⟩
  unfold execOp
  rw [ho]
  refine Zap ?_
  rw [(hs.str_at hx).1,(hs.str_at hy).1]
  have h1:bs m++bs n=bs (m++n):=ByteArray.mk_append_mk m n
  have h2:¬ (((bs m).size + (bs n).size:Nat):Int) > IntKind.i64.max:=by
   rw [Zb5,Zb5]
   have:IntKind.i64.max=9223372036854775807:=by decide
   simp only [maxLen] at hl
   omega
  simp only [eqGuard,binOp,Op.stringOp,h1,if_neg h2]
  simp
end
section
variable {P:Program} {B:Nat→Prop} {W:En} {Q:Exit→St→Prop} {st:St}
theorem aW.drawq {os:List Nat} {id n:Nat} {l:List Oper} {st':St} (_:st.objs.map (·.1)=os) (hm:P.follows .mixedOrders=true) (hsz:l.toArray.size=n) (h:aA P B W l.toArray os n (Array.replicate n false) (fun s=>Le s st') st) (hn:Q .normal st'):aW P B W (.region id l.toArray true) Q st:=aW.draw hm hsz h hn
end
theorem ObR.goes_weak' {P:Program} {w:World} {CC CC':V→Value→Prop} {Rr Rr':T→Value→Prop} {v:Value} {F:Nat→Prop} {fl d:Bool} {e:TypeId} {els:List (List T)} (hR:∀ x u,Rr x u→Rr' x u) (h:ObR P w CC Rr v F (.row fl d e els)):ObR P w CC' Rr' v F (.row fl d e els):=by
 rcases h with h|⟨hd,us,h1,h2,h3,h4,h5,h6⟩
 ·exact .inl h
 ·exact .inr ⟨hd,us,h1,h2,h3,h4,fun k x u hx hu=>hR _ _ (h5 k x u hx hu),h6⟩
section
variable {P:Program} {B:Nat→Prop} {W:En} {st:St}
theorem Zco.row {o ep:Nat} {fl d fl' d':Bool} {e:TypeId} {els els':List (List T)} (hl:look st.objs o=some (ep,.row fl d e els)) (h:∀ w CC Fr v F,ObR P w CC (Rd P w Fr) v F (.row fl d e els)→ObR P w CC (Rd P w Fr) v F (.row fl' d' e els')) :
  Zco P B W st (st.upds [(o,ep,.row fl' d' e els')]):=fun a w ⟨pl,F,hs⟩=>by
 have hlo:look (updl st.objs [(o,ep,.row fl' d' e els')]) o=some (ep,.row fl' d' e els'):=by
  show look ((o,ep,_) :: st.objs) o=_
  rw [ZaB,if_pos rfl]
 obtain ⟨pl',F',h5,_⟩:=hs.many (w':=w) (objs':=updl st.objs [(o,ep,.row fl' d' e els')]) (nv:=fun _=>pl o) (nF:=fun _ b=>F o b) (Nw:=fun k=>k=o)
  (Kp.refl _ _) (fun _ _ _=>rfl)
  (fun k hk=>by
   show look ((o,ep,_) :: st.objs) k=_
   rw [ZaB,if_neg fun e=>hk e.symm])
  (fun k hk=>by
   subst hk
   refine ⟨ep,_,hlo,fun ep0 ob0' h0=>.inr ?_,fun h0=>(by rw [hl] at h0;cases h0)⟩
   rw [hl] at h0
   cases h0
   exact ⟨rfl,rfl,rfl,rfl⟩)
  (fun k b hk hf=>⟨(hs.range _ _ _ hl hf).2,.inr ⟨o,_,rfl,hl,hf⟩⟩)
  (fun k k' b hk hk' hne' _ _=>hne' (hk.trans hk'.symm))
  (fun lk' pl' Fr' hFr hlp k e' b hk hlk=>by
   subst hk
   rw [hlo] at hlk
   cases hlk
   refine h w _ _ _ _ (ObR.goes_weak' ?_ (hs.objs _ _ _ hl))
   intro x u hx
   exact hx.mono (fun b hb=>hFr b (.inl hb) hb.2.1 fun i hi hf=>hb.2.2 _ _ hl hf) fun _ _=>rfl)
 exact ⟨pl',F',h5⟩
theorem Zco.unflat {o ep:Nat} {d:Bool} {e:TypeId} {els:List (List T)} (hl:look st.objs o=some (ep,.row true d e els)):Zco P B W st (st.upds [(o,ep,.row false d e els)]) :=
 Zco.row hl fun w CC Fr v F h=>by
  rcases h with ⟨hd,h⟩|⟨hd,us,h1,h2,h3,h4,h5,h6⟩
  ·refine .inl ⟨hd,?_⟩
   cases h with
   | flat hf=>cases hf
   | lst us fs s1 s2 s3 s4 s5 s6 s7 s8=>exact .lst us fs s1 s2 (fun h=>by cases h) s4 s5 s6 s7 s8
  ·exact .inr ⟨hd,us,h1,h2,fun h=>(by cases h),h4,h5,h6⟩
end
def roV0:V→V
 | .fr fl e els=>.t (.lst fl e els)
 | v=>v
def roV1:V→V
 | .agg cs=>.agg (cs.map roV0)
 | v=>roV0 v
def roV2:V→V
 | .tup vs=>.tup (vs.map roV1)
 | v=>roV1 v
theorem cvtA {v:Option (List T×List (Nat×Nat)×Bool)} {a:T} {b c:Nat} (h:v=some ([a],[(b,c)],true)):v=some ([a],[(b,c)],true):=h
theorem cvtB {v:Option (List T×List (Nat×Nat)×Bool)} {a:T} (h:v=some ([a],[],true)):v=some ([a],[],true):=h
theorem cvtC {v:Option (List T×List (Nat×Nat)×Bool)} {a1 a2 a3 a4 a5 a6 a7 a8 a9:T} {b1 b2 b3 b4:Nat} (h:v=some ([a1,a2,a3,a4,a5,a6,a7,a8,a9],[(b1,b2),(b3,b4)],true)):v=some ([a1,a2,a3,a4,a5,a6,a7,a8,a9],[(b1,b2),(b3,b4)],true):=h
section
variable {P:Program} {B:Nat→Prop} {W:En} {o:Oper} {st:St} {KE:V→List (Nat×Nat×Ob)→Prop}
theorem OpS.store_own {ty:TypeId} {x z:Operand} {i ep n off:Nat} {e:TypeId} {els els':List (List T)} {y:Ty} {v:V} {ts cs:List T} {ks:List (Nat×Nat)} {kl:List (Nat×Nat×Ob)} (ho:o.op=.store ty x z) (hx:st.ev x=.ptr i ep n off) (hl:look st.objs i=some (ep,.row false true e els)) (hy:Zac P ty=some y)
  (hz:st.ev z=v) (hs:(ZaT v).all V.sto=true) (hts:cvt (look st.objs) (ZaT v)=some (ts,ks,true)) (hnd:nodupB (ks.map (·.1))=true) (hks:(ks.all fun p=>!Nat.beq p.1 i)=true) (hn:(ZaT v).length=y.size) (hlt:n < els.length) (hc:els.getD n []=cs) {ye:Ty} (hye:Zac P e=some ye) (hle:Nat.ble (off + ts.length) ye.size=true) (hpos:Nat.beq y.size 0=false)
  (hkl:ZdT ks=kl) (hel:els.set n (setRange cs off ts)=els') (hK:KE (.lit undef) ((i,ep,.row false true e els') :: kl)):OpS P B W o st KE:=by
 subst hz hc hkl hel
 have hle:off + ts.length≤P.cellsOf e:=by rw [ZeD hye];exact Nat.le_of_ble_eq_true hle
 have hpos:y.size ≠ 0:=Nat.ne_of_beq_eq_false hpos
 have hksn:∀ x e,(x,e) ∈ ks→x ≠ i:=fun x e hx hs=>by
  have:=List.all_eq_true.1 hks _ hx
  subst hs
  simp at this
 intro a w pl0 F0 hs0 next Q hgo
 have hlive:∀ x e,(x,e) ∈ ks→∃ b,look st.objs x=some (e,b):=by
  obtain ⟨vs,_,hv2,_⟩:=((hs0.ev z).c1 hs).cells hs
  exact (hs0.cvt hv2 hts (ZdW hnd)).live
 refine OpS.chg (P:=P) (B:=B) (W:=W) (o:=o) (st:=st) (KE:=KE) (ks:=ks) hK (fun x e hx=>⟨hksn x e hx,hlive x e hx⟩) (fun a w pl F h=>?_) a w pl0 F0 hs0 next Q hgo
 have h1:=h.ev x
 rw [hx] at h1
 obtain ⟨_,ep',ob,h2,h3,h4⟩:C0 P w (look st.objs) pl (Free B W.o (look st.objs) F w) (.ptr i ep n off) (a.eval x):=h1
 rw [hl] at h2
 cases h2
 obtain ⟨g,bb,hg,hu⟩:=h4 rfl
 have hob:=h.objs i _ _ hl
 obtain ⟨us0,hp⟩:=ZbX hob
 have huni:=hp.uni
 have hnL:n * P.cellsOf e + P.cellsOf e≤els.length * P.cellsOf e:=by rw [← Nat.succ_mul];exact Nat.mul_le_mul_right _ hlt
 obtain ⟨vs,hv1,hv2,hv3⟩:=((h.ev z).c1 hs).cells hs
 have hcv:=h.cvt hv2 hts (ZdW hnd)
 have hlen:vs.length=ts.length:=hcv.len
 have htl:ts.length=y.size:=by rw [← hn,← hlen,hv2.1]
 obtain ⟨cfs,c1,c2,c3⟩:=hcv.own rfl
 have key:∀ us,ZbZ w e (P.cellsOf e) (pl i) els.length us→∃ cap cur fz,pl i=.slice (some ⟨g,bb,none⟩) els.length cap∧w.heap[g]?=some (.cells cur e fz)∧(fz=(0,0)∨cur.size≤fz.1)∧els.length≤cap∧cap≤maxLen∧bb + cap * P.cellsOf e≤cur.size∧(cur.toList.drop bb).take (els.length * P.cellsOf e)=us:=fun us ho=>by
  rcases ho.2 with ⟨_,h0⟩|⟨g',off',cap,cur,fz,e1,rest⟩
  ·omega
  ·rw [e1] at hg
   simp only [blk,Option.some.injEq,Prod.mk.injEq] at hg
   obtain ⟨rfl,rfl⟩:=hg
   exact ⟨cap,cur,fz,e1,rest⟩
 obtain ⟨cap,cur,fz,k1,k3,k4,k5,k6,k7,k8⟩:=key us0 hp.own
 have hcap:bb + els.length * P.cellsOf e≤cur.size:=Nat.le_trans (Nat.add_le_add_left (Nat.mul_le_mul_right _ k5) _) k7
 have hrun:=ZbQ P g (bb + (n * P.cellsOf e + off)) e fz vs 0 cur w k3 k4 (by omega) hv3
 have hcur:(cur.toList.take (bb + (n * P.cellsOf e + off) + 0)++vs++cur.toList.drop (bb + (n * P.cellsOf e + off) + 0 + vs.length))=setRange cur.toList (bb + (n * P.cellsOf e + off)) vs:=rfl
 rw [hcur] at hrun
 have htop:(pl i).ownBlock=some g:=by rw [k1];rfl
 have hFg:F i g:=hp.top g htop
 have k2:W.o g:=(h.range i _ g hl hFg).1
 have hown:∀ us,ZbZ w e (P.cellsOf e) (pl i) els.length us→ZbZ (w.setRow g (setRange cur.toList (bb + (n * P.cellsOf e + off)) vs).toArray) e (P.cellsOf e) (pl i) (els.set n (setRange (els.getD n []) off ts)).length (setRange us (n * P.cellsOf e + off) vs):=fun us ho=>by
  rw [List.length_set]
  have hus:us=us0:=ho.uniq hp.own
  subst hus
  refine ⟨by rw [ZaL _ _ _ (by rw [ho.1];omega)];exact ho.1,.inr ⟨g,bb,cap,_,fz,k1,setRow_heap w g cur _ e fz k3,?_,k5,k6,?_,?_⟩⟩
  ·rcases k4 with k4|k4
   ·exact .inl k4
   ·exact .inr (by rw [List.size_toArray,ZaL _ _ _ (by simp;omega)];simpa using k4)
  ·rw [List.size_toArray,ZaL _ _ _ (by simp;omega)];simpa using k7
  ·rw [List.toList_toArray,Zgd _ _ _ _ (by simp;omega),Zge _ _ _ _ (by omega) (by simp;omega),k8]
 have huni':∀ x ∈ els.set n (setRange (els.getD n []) off ts),x.length=P.cellsOf e:=fun x hx=>by
  rcases List.mem_or_eq_of_mem_set hx with hx|rfl
  ·exact huni x hx
  ·have h0:=huni _ (ZbT hlt)
   rw [ZaL _ _ _ (by omega)];exact h0
 have hfl':=Zd4 huni hlt hle
 have hL:els.flatten.length=els.length * P.cellsOf e:=ZaE huni
 have hcr:∀ k b,cfs k b→W.o b∧b < w.heap.size∧¬ F i b∧∃ o e y,(o,e) ∈ ks∧look st.objs o=some y∧F o b:=fun k b hb=>by
  obtain ⟨o',e',y',q1,q2,q3⟩:=c2 k b hb
  exact ⟨(h.range _ _ _ q2 q3).1,(h.range _ _ _ q2 q3).2,fun hf=>h.apart o' i _ _ b (hksn _ _ q1) q2 hl q3 hf,o',e',y',q1,q2,q3⟩
 rcases hob with ⟨hd,hob⟩|⟨hd,_⟩
 case inr=>cases hd
 generalize hpl:pl i=vo at *
 cases hob with
 | flat hf=>cases hf
 | lst us fs s1 s2 s3 s4 s5 s6 s7 s8 =>
 have hul:us.length=els.length * P.cellsOf e:=s1.1
 let fs':Nat→Nat→Prop:=fun k b=>if n * P.cellsOf e + off≤k∧k < n * P.cellsOf e + off + vs.length then cfs (k - (n * P.cellsOf e + off)) b else fs k b
 have hfsF:∀ k b,fs k b→F i b:=fun k b hb=>(s8 b).2 (.inr ⟨k,hb⟩)
 refine ⟨_,_,vo,fun b=>vo.ownBlock=some b∨∃ k,fs' k b,undef,ZgA ho hy hu (by rw [hv1];simp;omega) (by rw [hv1];exact hrun),.inr ⟨rfl,rfl⟩,below_setRow k2 _,fun b hb hf=>setRow_other w g _ b fun e=>hf _ hl (e▸hFg),fun ep0 ob0 h0=>?_,fun h0=>(by rw [hl] at h0;cases h0),fun b hb=>.inr ?_,fun lk' pl' Fr' gg _ _ _=>⟨.inl ⟨rfl,.lst (setRange us (n * P.cellsOf e + off) vs) fs' (hown us s1) huni' (fun h=>by cases h) (by rw [hfl',ZaL _ _ _ (by omega),ZaL _ _ _ (by omega)];exact s4) (fun k x u hx hu=>?_) (fun k k' b hne hk hk'=>?_) (fun k b hk ht=>?_) fun b=>Iff.rfl⟩,rfl⟩⟩
 ·rw [hl] at h0;cases h0;exact .inr ⟨rfl,rfl,rfl,rfl⟩
 ·rcases hb with hb|⟨k,hb⟩
  ·exact .inl ⟨_,hl,(s8 b).2 (.inl hb)⟩
  ·dsimp only [fs'] at hb
   split at hb
   ·obtain ⟨_,_,_,o',e',y',q1,q2,q3⟩:=hcr _ b hb
    exact .inr ⟨o',y',hksn _ _ q1,⟨e',q1⟩,q2,q3⟩
   ·exact .inl ⟨_,hl,hfsF k b hb⟩
 ·rw [hfl',Zby _ _ _ _ (by omega)] at hx
  rw [Zby _ _ _ _ (by omega)] at hu
  show Ow P _ x u (fun b=>if n * P.cellsOf e + off≤k∧k < n * P.cellsOf e + off + vs.length then cfs (k - (n * P.cellsOf e + off)) b else fs k b)
  by_cases hk:n * P.cellsOf e + off≤k∧k < n * P.cellsOf e + off + vs.length
  ·rw [if_pos (by rw [← hlen];exact hk)] at hx
   rw [if_pos hk] at hu
   simp only [if_pos hk]
   exact (c1 _ x u hx hu).keep fun b hb=>setRow_other w g _ b fun e=>(hcr _ b hb).2.2.1 (e▸hFg)
  ·rw [if_neg (by rw [← hlen];exact hk)] at hx
   rw [if_neg hk] at hu
   simp only [if_neg hk]
   exact (s5 k x u hx hu).keep fun b hb=>setRow_other w g _ b fun e=>s7 k b hb (e▸htop)
 ·dsimp only [fs'] at hk hk'
  split at hk
  ·split at hk'
   ·exact c3 _ _ b (by omega) hk hk'
   ·exact (hcr _ b hk).2.2.1 (hfsF _ b hk')
  ·split at hk'
   ·exact (hcr _ b hk').2.2.1 (hfsF _ b hk)
   ·exact s6 k k' b hne hk hk'
 ·dsimp only [fs'] at hk
  split at hk
  ·exact (hcr _ b hk).2.2.1 ((s8 b).2 (.inl ht))
  ·exact s7 k b hk ht
end
theorem OpS.lit3 {P:Program} {B:Nat→Prop} {W:En} {o:Oper} {st:St} {KE:V→List (Nat×Nat×Ob)→Prop} {t:TypeId} {len:Nat} {parts:Array (Nat×Operand)} {xs:List Operand} {y ye:Ty} {e es eb site ep:Nat} {zs:List V} {ts:List T} {ks:List (Nat×Nat)} {d0 d fl:Bool} {els:List (List T)} {kl:List (Nat×Nat×Ob)}
  (ho:o.op=.buildSlice t len parts) (hd:o.dst=some site) (hparts:parts.toList=(xs.zipIdx 0).map fun p=>(p.2,p.1)) (hlen:xs.length=len) (hy:Zac P t=some y) (hk:y.k=.slice e es eb) (hye:Zac P e=some ye) (hz:ye.zero=some zs) (hzl:zs.length=es) (hes:Nat.blt 0 es=true) (hsm:Nat.ble (len * es) 16777216=true)
  (hsto:(xs.map st.ev).all (fun v=>(ZaT v).all V.sto && Nat.beq (ZaT v).length es)=true) (hcv:cvt (look st.objs) ((xs.map st.ev).flatMap ZaT)=some (ts,ks,d0)) (hd0:d0=d) (hnd:nodupB (ks.map (·.1))=true) (hks:(ks.all fun p=>!Nat.beq p.1 site)=true)
  (hel:els.flatten=ts∧els.length=len) (hu:(els.all fun x=>Nat.beq x.length es)=true) (hfl:ts.all T.flat=fl) (hep:nep (look st.objs site)=ep) (hkl:ZdT ks=kl) (hK:KE (.hnd site ep) ((site,ep,.row fl d e els) :: kl)):OpS P B W o st KE:=OpS.lit ho hd hparts hlen hy hk hye hz hzl hes hsm hsto hcv hd0 hnd hks hel.1 hel.2 hu hfl hep hkl hK
end Go.Proofs.YthfaongbpdnlnaaGreat.Ab
namespace Go.Proofs.YthfaongbpdnlnaaGreat
set_option maxHeartbeats 1000000
set_option maxRecDepth 512
set_option linter.unusedSimpArgs false
set_option linter.unusedVariables false
open Go.RowKit Go.ChangeShapes Go.WideShapes
theorem Za0 (a:Addr) (n:Nat):(a.add n).block=a.block:=by unfold Addr.add;split<;>rfl
theorem Zc7 (a:Addr) (i j:Nat):(a.add i).add j=a.add (i + j):=by
 unfold Addr.add
 by_cases hi:i=0<;>by_cases hj:j=0<;>simp [hi,hj,Nat.add_assoc]
def Reads (w:World) (B size:Nat) (A:Option Addr) (n:Nat) (xs:List Value):Prop :=
 xs.length=n * size∧(0 < xs.length→∃ ad,A=some ad∧ad.block < B∧∀ j u,xs[j]?=some u→w.cell? (ad.add j)=some u)
inductive TY where
 | int (k:IntKind)
 | str
 | bool
 | slice (e:TypeId) (t:TY)
 | struct (f:TY)
 | unit
 | last (a:TY)
 | pair (a b:TY)
abbrev TY.V:TY→Type
 | .int _=>Int
 | .str=>ByteArray
 | .bool=>Bool
 | .slice _ t=>List t.V
 | .struct f=>f.V
 | .unit=>Unit
 | .last a=>a.V
 | .pair a b=>a.V×b.V
def TY.sz:TY→Nat
 | .int _=>1
 | .str=>1
 | .bool=>1
 | .slice _ _=>1
 | .struct f=>f.sz
 | .unit=>0
 | .last a=>a.sz
 | .pair a b=>a.sz + b.sz
def Zch {α:Type} (R:List Value→α→Prop):List α→List Value→Prop
 | [],cs=>cs=[]
 | x :: xs,cs=>∃ c1 c2,cs=c1++c2∧R c1 x∧Zch R xs c2
def Zb4 {α:Type} (R:List Nat→List Value→α→Prop):List α→List Nat→List Value→Prop
 | [],fp,cs=>fp=[]∧cs=[]
 | x :: xs,fp,cs=>∃ f1 f2 c1 c2,fp=f1++f2∧cs=c1++c2∧R f1 c1 x∧Zb4 R xs f2 c2
def SlRd {α:Type} (size:Nat) (R:List Value→α→Prop) (w:World) (B:Nat) (A:Option Addr) (n c:Nat) (xs:List α):Prop :=
 xs.length=n∧n≤c∧c≤maxLen∧∃ cs,Reads w B size A n cs∧Zch R xs cs
def TY.Rd:(t:TY)→World→Nat→List Value→t.V→Prop
 | .int k,_,_,cs,n=>cs=[.int k n]∧(Lit.int k n).wf=true
 | .str,_,_,cs,s=>cs=[.string s]∧s.size≤maxLen
 | .bool,_,_,cs,b=>cs=[.bool b]
 | .slice _ t,w,B,cs,xs=>∃ A n c,cs=[.slice A n c]∧SlRd t.sz (t.Rd w B) w B A n c xs
 | .struct f,w,B,cs,x=>f.Rd w B cs x
 | .unit,_,_,cs,_=>cs=[]
 | .last a,w,B,cs,x=>a.Rd w B cs x
 | .pair a b,w,B,cs,x=>∃ c1 c2,cs=c1++c2∧a.Rd w B c1 x.1∧b.Rd w B c2 x.2
section
variable {α:Type} {R R':List Value→α→Prop} {S S':List Nat→List Value→α→Prop}
theorem Zch.append:∀ {xs ys:List α} {cs ds:List Value},Zch R xs cs→Zch R ys ds→Zch R (xs++ys) (cs++ds)
 | [],_,_,_,hc,hd=>by subst hc;simpa using hd
 | _ :: _,_,_,_,⟨c1,c2,e,h1,h2⟩,hd=>⟨c1,c2++_,by subst e;simp,h1,Zch.append h2 hd⟩
theorem Zch.one {x:α} {cs:List Value} (h:R cs x):Zch R [x] cs:=⟨cs,[],by simp,h,rfl⟩
end
theorem TY.Rd.len:∀ {t:TY} {w:World} {B:Nat} {cs:List Value} {x:t.V},t.Rd w B cs x→cs.length=t.sz
 | .int _,_,_,_,_,h=>by rw [h.1];rfl
 | .str,_,_,_,_,h=>by rw [h.1];rfl
 | .bool,_,_,cs,x,h=>by
  have:cs=[.bool x]:=h
  rw [this];rfl
 | .slice _ _,_,_,_,_,⟨_,_,_,h,_⟩=>by rw [h];rfl
 | .struct f,_,_,_,_,h=>TY.Rd.len (t:=f) h
 | .unit,_,_,cs,_,h=>by
  have:cs=[]:=h
  rw [this];rfl
 | .last a,_,_,_,_,h=>TY.Rd.len (t:=a) h
 | .pair a b,_,_,_,_,⟨c1,c2,e,h1,h2⟩=>by
  subst e
  rw [List.length_append,TY.Rd.len (t:=a) h1,TY.Rd.len (t:=b) h2];rfl
abbrev Lv:=List (List UInt8)
def Zad (l:Lv):Nat:=(l.getD 0 []).length
def Zam (l:Lv) (r c:Nat):Nat:=((l.getD r []).getD c 0).toNat
def Edge (n w r c:Nat):Prop:=r=0∨r + 1=n∨c=0∨c + 1=w
def OkT (t:Nat):Prop:=t=35∨t=111∨t=46∨(49≤t∧t≤52)
structure ZaZ (l:Lv):Prop where
 n3:3≤l.length
 n12:l.length≤12
 w4:4≤Zad l
 w20:Zad l≤20
 rows:∀ r,r < l.length→(l.getD r []).length=Zad l
 tiles:∀ r c,r < l.length→c < Zad l→OkT (Zam l r c)
 edge:∀ r c,r < l.length→c < Zad l→Edge l.length (Zad l) r c→Zam l r c=35
 once:∀ r c r' c',r < l.length→c < Zad l→r' < l.length→c' < Zad l→Zam l r c=Zam l r' c'→49≤Zam l r c→Zam l r c≤52→r=r'∧c=c'
 open_:∃ r c,r < l.length∧c < Zad l∧Zam l r c ≠ 35
open Classical in
noncomputable def Zbc (l:Lv):Bool:=decide (ZaZ l)
theorem ZaU {l:Lv}:Zbc l=true↔ZaZ l:=by classical exact decide_eq_true_iff
theorem ZdU {l:Lv} (h:¬ ZaZ l):Zbc l=false:=by classical exact decide_eq_false h
def Dn (w r c p q:Nat):Prop:=(p < r∨(p=r∧q < c))∧q < w
structure Scan (l:Lv) (r c:Nat) (s1 s2 s3 s4:Bool) (op:Bool):Prop where
 rows:∀ p,p < r→(l.getD p []).length=Zad l
 tiles:∀ p q,Dn (Zad l) r c p q→OkT (Zam l p q)
 edge:∀ p q,Dn (Zad l) r c p q→Edge l.length (Zad l) p q→Zam l p q=35
 seen1:s1=true↔∃ p q,Dn (Zad l) r c p q∧Zam l p q=49
 seen2:s2=true↔∃ p q,Dn (Zad l) r c p q∧Zam l p q=50
 seen3:s3=true↔∃ p q,Dn (Zad l) r c p q∧Zam l p q=51
 seen4:s4=true↔∃ p q,Dn (Zad l) r c p q∧Zam l p q=52
 once:∀ p q p' q',Dn (Zad l) r c p q→Dn (Zad l) r c p' q'→Zam l p q=Zam l p' q'→49≤Zam l p q→Zam l p q≤52→p=p'∧q=q'
 open_:op=true↔∃ p q,Dn (Zad l) r c p q∧Zam l p q ≠ 35
theorem Zgz {w p q:Nat}:¬ Dn w 0 0 p q:=by unfold Dn;omega
theorem ZcE {w r c p q:Nat} (hc:c < w):Dn w r (c + 1) p q↔(Dn w r c p q∨(p=r∧q=c)):=by unfold Dn;omega
theorem Zmv {w r p q:Nat}:Dn w (r + 1) 0 p q↔Dn w r w p q:=by unfold Dn;omega
theorem dn_ne {w r c p q:Nat} (h:Dn w r c p q):¬ (p=r∧q=c):=by unfold Dn at h;omega
theorem Scan.start (l:Lv):Scan l 0 0 false false false false false:=by
 refine ⟨fun p hp=>absurd hp (Nat.not_lt_zero _),fun p q h=>absurd h Zgz,fun p q h=>absurd h Zgz,?_,?_,?_,?_,fun p q p' q' h=>absurd h Zgz,?_⟩
 all_goals exact ⟨fun h=>(by cases h),fun ⟨p,q,h,_⟩=>absurd h Zgz⟩
theorem Scan.row {l:Lv} {r:Nat} {s1 s2 s3 s4 op:Bool} (h:Scan l r (Zad l) s1 s2 s3 s4 op) (hl:(l.getD r []).length=Zad l):Scan l (r + 1) 0 s1 s2 s3 s4 op:=by
 refine ⟨fun p hp=>?_,?_,?_,?_,?_,?_,?_,?_,?_⟩
 ·by_cases e:p=r
  ·rw [e];exact hl
  ·exact h.rows p (by omega)
 all_goals simp only [Zmv]
 ·exact h.tiles
 ·exact h.edge
 ·exact h.seen1
 ·exact h.seen2
 ·exact h.seen3
 ·exact h.seen4
 ·exact h.once
 ·exact h.open_
theorem Zos {w r c:Nat} (hc:c < w) {Q:Nat→Nat→Prop}:(∃ p q,Dn w r (c + 1) p q∧Q p q)↔((∃ p q,Dn w r c p q∧Q p q)∨Q r c):=by
 constructor
 ·rintro ⟨p,q,h,hq⟩
  rcases (ZcE hc).1 h with h|⟨rfl,rfl⟩
  ·exact .inl ⟨p,q,h,hq⟩
  ·exact .inr hq
 ·rintro (⟨p,q,h,hq⟩|h)
  ·exact ⟨p,q,(ZcE hc).2 (.inl h),hq⟩
  ·exact ⟨r,c,(ZcE hc).2 (.inr ⟨rfl,rfl⟩),h⟩
theorem Scan.next {l:Lv} {r c:Nat} {s1 s2 s3 s4 op:Bool} (h:Scan l r c s1 s2 s3 s4 op) (hc:c < Zad l) (hok:OkT (Zam l r c)) (he:Edge l.length (Zad l) r c→Zam l r c=35)
  (h1:Zam l r c=49→s1=false) (h2:Zam l r c=50→s2=false) (h3:Zam l r c=51→s3=false) (h4:Zam l r c=52→s4=false) :
  Scan l r (c + 1) (s1 || decide (Zam l r c=49)) (s2 || decide (Zam l r c=50)) (s3 || decide (Zam l r c=51)) (s4 || decide (Zam l r c=52)) (op || decide (Zam l r c ≠ 35)):=by
 refine ⟨h.rows,fun p q hd=>?_,fun p q hd=>?_,?_,?_,?_,?_,fun p q p' q' hd hd' ht g1 g2=>?_,?_⟩
 ·rcases (ZcE hc).1 hd with hd|⟨rfl,rfl⟩
  ·exact h.tiles p q hd
  ·exact hok
 ·rcases (ZcE hc).1 hd with hd|⟨rfl,rfl⟩
  ·exact h.edge p q hd
  ·exact he
 ·rw [Zos hc,← h.seen1,Bool.or_eq_true,decide_eq_true_iff]
 ·rw [Zos hc,← h.seen2,Bool.or_eq_true,decide_eq_true_iff]
 ·rw [Zos hc,← h.seen3,Bool.or_eq_true,decide_eq_true_iff]
 ·rw [Zos hc,← h.seen4,Bool.or_eq_true,decide_eq_true_iff]
 ·have key:∀ p q,Dn (Zad l) r c p q→Zam l p q=Zam l r c→49≤Zam l r c→Zam l r c≤52→False:=fun p q hd ht g1 g2=>by
   have:Zam l r c=49∨Zam l r c=50∨Zam l r c=51∨Zam l r c=52:=by omega
   rcases this with e|e|e|e
   ·have:=h.seen1.2 ⟨p,q,hd,ht.trans e⟩
    rw [h1 e] at this;cases this
   ·have:=h.seen2.2 ⟨p,q,hd,ht.trans e⟩
    rw [h2 e] at this;cases this
   ·have:=h.seen3.2 ⟨p,q,hd,ht.trans e⟩
    rw [h3 e] at this;cases this
   ·have:=h.seen4.2 ⟨p,q,hd,ht.trans e⟩
    rw [h4 e] at this;cases this
  rcases (ZcE hc).1 hd with hd|⟨rfl,rfl⟩
  ·rcases (ZcE hc).1 hd' with hd'|⟨rfl,rfl⟩
   ·exact h.once p q p' q' hd hd' ht g1 g2
   ·exact (key p q hd ht (by omega) (by omega)).elim
  ·rcases (ZcE hc).1 hd' with hd'|⟨rfl,rfl⟩
   ·exact (key p' q' hd' ht.symm g1 g2).elim
   ·exact ⟨rfl,rfl⟩
 ·rw [Zos hc,← h.open_,Bool.or_eq_true,decide_eq_true_iff]
theorem Scan.done {l:Lv} {s1 s2 s3 s4 op:Bool} (h:Scan l l.length 0 s1 s2 s3 s4 op) (n3:3≤l.length) (n12:l.length≤12) (w4:4≤Zad l) (w20:Zad l≤20):Zbc l=op:=by
 have hd:∀ r c,r < l.length→c < Zad l→Dn (Zad l) l.length 0 r c:=fun r c h1 h2=>⟨.inl h1,h2⟩
 have hi:∀ r c,Dn (Zad l) l.length 0 r c→r < l.length∧c < Zad l:=fun r c h=>by unfold Dn at h;omega
 rw [Bool.eq_iff_iff,ZaU,h.open_]
 constructor
 ·intro hl
  obtain ⟨r,c,h1,h2,h3⟩:=hl.open_
  exact ⟨r,c,hd r c h1 h2,h3⟩
 ·rintro ⟨r,c,h1,h2⟩
  exact ⟨n3,n12,w4,w20,h.rows,fun r c h1 h2=>h.tiles r c (hd r c h1 h2),fun r c h1 h2=>h.edge r c (hd r c h1 h2),fun r c r' c' h1 h2 h1' h2'=>h.once r c r' c' (hd r c h1 h2) (hd r' c' h1' h2'),r,c,(hi r c h1).1,(hi r c h1).2,h2⟩
theorem Scan.dup {l:Lv} {r c:Nat} {s1 s2 s3 s4 op:Bool} (h:Scan l r c s1 s2 s3 s4 op) (hr:r < l.length) (hc:c < Zad l)
  (hs:(Zam l r c=49∧s1=true)∨(Zam l r c=50∧s2=true)∨(Zam l r c=51∧s3=true)∨(Zam l r c=52∧s4=true)):Zbc l=false:=by
 refine ZdU fun hl=>?_
 have key:∀ p q,Dn (Zad l) r c p q→Zam l p q=Zam l r c→49≤Zam l r c→Zam l r c≤52→False:=fun p q hd ht g1 g2=>by
  have hpq:p < l.length∧q < Zad l:=by unfold Dn at hd;omega
  exact dn_ne hd (hl.once p q r c hpq.1 hpq.2 hr hc ht (by omega) (by omega))
 rcases hs with ⟨e,hs⟩|⟨e,hs⟩|⟨e,hs⟩|⟨e,hs⟩
 ·obtain ⟨p,q,hd,ht⟩:=h.seen1.1 hs
  exact key p q hd (by omega) (by omega) (by omega)
 ·obtain ⟨p,q,hd,ht⟩:=h.seen2.1 hs
  exact key p q hd (by omega) (by omega) (by omega)
 ·obtain ⟨p,q,hd,ht⟩:=h.seen3.1 hs
  exact key p q hd (by omega) (by omega) (by omega)
 ·obtain ⟨p,q,hd,ht⟩:=h.seen4.1 hs
  exact key p q hd (by omega) (by omega) (by omega)
theorem Zmr {l:Lv} {r c:Nat} (hr:r < l.length) (hc:c < Zad l) (h:¬ OkT (Zam l r c)):Zbc l=false:=ZdU fun hl=>h (hl.tiles r c hr hc)
theorem Zmq {l:Lv} {r c:Nat} (hr:r < l.length) (hc:c < Zad l) (he:Edge l.length (Zad l) r c) (h:Zam l r c ≠ 35):Zbc l=false:=ZdU fun hl=>h (hl.edge r c hr hc he)
theorem Zod {l:Lv} {r:Nat} (hr:r < l.length) (h:(l.getD r []).length ≠ Zad l):Zbc l=false:=ZdU fun hl=>h (hl.rows r hr)
theorem Zg1 {l:Lv} (h:l.length < 3∨12 < l.length∨Zad l < 4∨20 < Zad l):Zbc l=false:=ZdU fun hl=>by
 have:=hl.n3;have:=hl.n12;have:=hl.w4;have:=hl.w20;omega
def Wall (l:Lv) (r c:Nat):Prop:=¬ (r < l.length∧c < (l.getD r []).length∧Zam l r c ≠ 35)
def Zn1 (l:Lv) (x y s:Int):Prop:=¬ (0≤x∧x≤1000∧0≤y∧y≤1000)∨∃ r c:Nat,y / 16≤r∧(r:Int)≤(y + s - 1) / 16∧x / 16≤c∧(c:Int)≤(x + s - 1) / 16∧Wall l r c
open Classical in
noncomputable def ZaG (l:Lv) (x y s:Int):Bool:=decide (Zn1 l x y s)
theorem Ze7 {l:Lv} {x y s:Int}:ZaG l x y s=true↔Zn1 l x y s:=by classical exact decide_eq_true_iff
theorem ZeQ {l:Lv} {x y s:Int}:ZaG l x y s=false↔¬ Zn1 l x y s:=by classical exact decide_eq_false_iff_not
theorem Zk7 {l:Lv} {x y s:Int} (h:ZaZ l) (hs:1≤s) (ho:x < 0∨y < 0∨(Zad l:Int) * 16 - s < x∨(l.length:Int) * 16 - s < y):ZaG l x y s=true:=by
 rw [Ze7]
 by_cases hin:0≤x∧x≤1000∧0≤y∧y≤1000
 ·refine .inr ?_
  by_cases hx:(Zad l:Int) * 16 - s < x
  ·refine ⟨(y / 16).toNat,((x + s - 1) / 16).toNat,by omega,by omega,by omega,by omega,fun hw=>?_⟩
   have:=h.rows _ hw.1
   omega
  ·refine ⟨((y + s - 1) / 16).toNat,(x / 16).toNat,by omega,by omega,by omega,by omega,fun hw=>?_⟩
   omega
 ·exact .inl hin
theorem Zef {l:Lv} {x y s:Int} (h:ZaG l x y s=false):0≤x∧x≤1000∧0≤y∧y≤1000:=by
 rw [ZeQ] at h
 exact Classical.byContradiction fun hn=>h (.inl hn)
theorem Zo4 {l:Lv} {x y s x' y' s':Int} (h:ZaG l x y s=false) (hx:x≤x') (hx2:x' + s'≤x + s) (hy:y≤y') (hy2:y' + s'≤y + s) (hs:1≤s') (hb:x'≤1000∧y'≤1000):ZaG l x' y' s'=false:=by
 have hi:=Zef h
 rw [ZeQ] at h ⊢
 rintro (hn|⟨r,c,h1,h2,h3,h4,hw⟩)
 ·omega
 ·exact h (.inr ⟨r,c,by omega,by omega,by omega,by omega,hw⟩)
theorem Zmh {l:Lv} {x y s:Int} (hl:ZaZ l) (hs:1≤s) (h:ZaG l x y s=false):0≤x∧0≤y∧x + s≤320∧y + s≤192:=by
 have:=hl.w20;have:=hl.n12
 refine ⟨?_,?_,?_,?_⟩
 all_goals
  refine Classical.byContradiction fun hn=>?_
  rw [Zk7 hl hs (by omega)] at h
  cases h
def Zfi (l:Lv) (p:Int) (xy:Int×Int):Prop :=
 (∃ r c,r < l.length∧c < Zad l∧(Zam l r c:Int)=49 + p∧xy=(16 * (c:Int) + 2,16 * (r:Int) + 2)) ∨
 ((∀ r c,r < l.length→c < Zad l→(Zam l r c:Int) ≠ 49 + p)∧∃ r c,r < l.length∧c < Zad l∧Zam l r c ≠ 35∧(∀ r' c',Dn (Zad l) r c r' c'→Zam l r' c'=35)∧xy=(16 * (c:Int) + 2,16 * (r:Int) + 2))
open Classical in
noncomputable def ZcV (l:Lv) (p:Int):Int×Int:=if h:ZaZ l∧0≤p∧p≤3∧∃ xy,Zfi l p xy then Classical.choose h.2.2.2 else (-1,-1)
theorem Zfi.uniq {l:Lv} {p:Int} {a b:Int×Int} (hl:ZaZ l) (h0:0≤p) (h3:p≤3) (ha:Zfi l p a) (hb:Zfi l p b):a=b:=by
 rcases ha with ⟨r,c,hr,hc,ht,rfl⟩|⟨hn,r,c,hr,hc,ht,hd,rfl⟩
 ·rcases hb with ⟨r',c',hr',hc',ht',rfl⟩|⟨hn',_⟩
  ·obtain ⟨e1,e2⟩:=hl.once r c r' c' hr hc hr' hc' (by omega) (by omega) (by omega)
   rw [e1,e2]
  ·exact absurd ht (hn' r c hr hc)
 ·rcases hb with ⟨r',c',hr',hc',ht',rfl⟩|⟨_,r',c',hr',hc',ht',hd',rfl⟩
  ·exact absurd ht' (hn r' c' hr' hc')
  ·by_cases e:r=r'∧c=c'
   ·rw [e.1,e.2]
   ·by_cases e2:r < r'∨(r=r'∧c < c')
    ·exact absurd (hd' r c ⟨e2,hc⟩) ht
    ·exact absurd (hd r' c' ⟨by omega,hc'⟩) ht'
theorem Zh0 {l:Lv} {p:Int} {xy:Int×Int} (hl:ZaZ l) (h0:0≤p) (h3:p≤3) (h:Zfi l p xy):ZcV l p=xy:=by
 have hh:ZaZ l∧0≤p∧p≤3∧∃ xy,Zfi l p xy:=⟨hl,h0,h3,xy,h⟩
 unfold ZcV
 rw [dif_pos hh]
 exact Zfi.uniq hl h0 h3 (Classical.choose_spec hh.2.2.2) h
theorem Zgh {l:Lv} {p:Int} (h:¬ (ZaZ l∧0≤p∧p≤3)):ZcV l p=(-1,-1):=by
 unfold ZcV
 rw [dif_neg fun hh=>h ⟨hh.1,hh.2.1,hh.2.2.1⟩]
theorem ZnT {l:Lv} {p:Int} {xy:Int×Int} (hl:ZaZ l) (h0:0≤p) (h:Zfi l p xy):ZaG l xy.1 xy.2 12=false:=by
 obtain ⟨r,c,hr,hc,ht,rfl⟩:∃ r c,r < l.length∧c < Zad l∧Zam l r c ≠ 35∧xy=(16 * (c:Int) + 2,16 * (r:Int) + 2):=by
  rcases h with ⟨r,c,hr,hc,ht,rfl⟩|⟨hn,r,c,hr,hc,ht,hd,rfl⟩
  ·exact ⟨r,c,hr,hc,by omega,rfl⟩
  ·exact ⟨r,c,hr,hc,ht,rfl⟩
 have:=hl.w20;have:=hl.n12
 rw [ZeQ]
 rintro (hn|⟨r',c',h1,h2,h3,h4,hw⟩)
 ·simp only at hn;omega
 ·obtain rfl:r'=r:=by simp only at h1 h2;omega
  obtain rfl:c'=c:=by simp only at h3 h4;omega
  exact hw ⟨hr,by rw [hl.rows _ hr];exact hc,ht⟩
def Za3 (l:Lv) (r c:Nat):List (List Int):=(List.range c).filterMap fun q=>if Zam l r q=111 then some [16 * (q:Int) + 4,16 * (r:Int) + 4] else none
def Zbk (l:Lv) (r:Nat):List (List Int):=(List.range r).flatMap fun p=>Za3 l p (Zad l)
def Zay (l:Lv):List (List Int):=Zbk l l.length
theorem Zgb (l:Lv) (r:Nat):Za3 l r 0=[]:=rfl
theorem Zk2 {l:Lv} {r c:Nat} (h:Zam l r c=111):Za3 l r (c + 1)=Za3 l r c++[[16 * (c:Int) + 4,16 * (r:Int) + 4]]:=by
 simp [Za3,List.range_succ,List.filterMap_append,h]
theorem Zmf {l:Lv} {r c:Nat} (h:Zam l r c ≠ 111):Za3 l r (c + 1)=Za3 l r c:=by
 simp [Za3,List.range_succ,List.filterMap_append,h]
theorem ZeR (l:Lv) (r:Nat):Zbk l (r + 1)=Zbk l r++Za3 l r (Zad l):=by
 simp [Zbk,List.range_succ]
theorem ZeM (l:Lv) (r c:Nat):(Za3 l r c).length≤c:=by
 unfold Za3
 exact Nat.le_trans (List.length_filterMap_le _ _) (by simp)
theorem ZfD (l:Lv):∀ r,(Zbk l r).length≤r * Zad l
 | 0=>by simp [Zbk]
 | r + 1=>by
  rw [ZeR,List.length_append,Nat.succ_mul]
  exact Nat.add_le_add (ZfD l r) (ZeM _ _ _)
structure Bd where
 kind:Int
 owner:Int
 x:Int
 y:Int
 vx:Int
 vy:Int
 aim:Int
 life:Int
 timer:Int
instance:Inhabited Bd:=⟨⟨0,0,0,0,0,0,0,0,0⟩⟩
structure Wd where
 level:Lv
 tick:Int
 seed:Int
 scores:List Int
 bodies:List Bd
def Zas (k:Int):Int:=if k=0 then 12 else if k=1 then 4 else if k=2 then 8 else 0
theorem ZbE {k:Int} (h:0≤k∧k≤2):1≤Zas k∧Zas k≤16:=by unfold Zas;split;omega;split;omega;split<;>omega
noncomputable def ZbU (l:Lv) (x y s:Int):Bool:=!Zbc l || !inR s 1 16 || ZaG l x y s
def Zl7 (a b:Bd):Bool:=decide (Zas a.kind ≠ 0∧Zas b.kind ≠ 0∧(0≤a.x∧a.x≤1000)∧(0≤a.y∧a.y≤1000)∧(0≤b.x∧b.x≤1000)∧(0≤b.y∧b.y≤1000) ∧
 a.x < b.x + Zas b.kind∧b.x < a.x + Zas a.kind∧a.y < b.y + Zas b.kind∧b.y < a.y + Zas a.kind)
structure ZbF (l:Lv) (n:Int) (b:Bd):Prop where
 kind:0≤b.kind∧b.kind≤2
 owner:0≤b.owner∧b.owner < n
 free:ZaG l b.x b.y (Zas b.kind)=false
 vx:-15≤b.vx∧b.vx≤15
 vy:-15≤b.vy∧b.vy≤15
 aim:(b.kind=0∧(b.aim=1∨b.aim=-1))∨(b.kind ≠ 0∧b.aim=0)
 life:(b.kind=0∧0≤b.life∧b.life≤3)∨(b.kind ≠ 0∧b.life=0)
 timer:(b.kind=0∧b.life=0∧1≤b.timer∧b.timer≤20)∨(b.kind=0∧b.life ≠ 0∧0≤b.timer∧b.timer≤12)∨(b.kind=1∧1≤b.timer∧b.timer≤25)∨(b.kind=2∧b.owner=0∧b.timer=0)
open Classical in
noncomputable def Zhw (l:Lv) (n:Int) (b:Bd):Bool:=decide (ZbF l n b)
theorem ZbV {l:Lv} {n:Int} {b:Bd}:Zhw l n b=true↔ZbF l n b:=by classical exact decide_eq_true_iff
theorem ZcM {l:Lv} {n:Int} {b:Bd} (h:¬ ZbF l n b):Zhw l n b=false:=by classical exact decide_eq_false h
noncomputable def Zdf (l:Lv) (n:Int) (b:Bd):Bool:=Zbc l && Zhw l n b
structure ZaV (w:Wd):Prop where
 level:ZaZ w.level
 tick:0≤w.tick∧w.tick≤100000
 seed:0≤w.seed∧w.seed≤65535
 n:1≤w.scores.length∧w.scores.length≤4
 scores:∀ k,k < w.scores.length→0≤w.scores.getD k default∧w.scores.getD k default≤1000000
 m:w.scores.length≤w.bodies.length∧w.bodies.length≤24
 bodies:∀ k,k < w.bodies.length→ZbF w.level w.scores.length (w.bodies.getD k default)
 players:∀ k,k < w.scores.length→(w.bodies.getD k default).kind=0∧(w.bodies.getD k default).owner=k
 others:∀ k,w.scores.length≤k→k < w.bodies.length→(w.bodies.getD k default).kind ≠ 0
open Classical in
noncomputable def ZaW (w:Wd):Bool:=decide (ZaV w)
theorem Zax {w:Wd}:ZaW w=true↔ZaV w:=by classical exact decide_eq_true_iff
theorem ZaF {w:Wd} (h:¬ ZaV w):ZaW w=false:=by classical exact decide_eq_false h
def ZbD (row:List Int) (n:Nat):Bool:=decide (row.length=n) && row.all fun x=>inR x 0 15
noncomputable def ZbW (l:Lv) (s step:Int):Nat→Bd→Bd×Bool
 | 0,b=>(b,false)
 | n + 1,b=>if ZaG l (b.x + step) b.y s=true then ({ b with vx:=0 },true) else ZbW l s step n { b with x:=b.x + step }
noncomputable def ZbH (l:Lv) (s step:Int):Nat→Bd→Bd×Bool
 | 0,b=>(b,false)
 | n + 1,b=>if ZaG l b.x (b.y + step) s=true then ({ b with vy:=0 },true) else ZbH l s step n { b with y:=b.y + step }
def sgnV (v:Int):Int:=if v < 0 then -1 else 1
noncomputable def Zbd (l:Lv) (b:Bd):Bd×Bool :=
 let p:=ZbW l (Zas b.kind) (sgnV b.vx) b.vx.natAbs b
 let q:=ZbH l (Zas b.kind) (sgnV p.1.vy) p.1.vy.natAbs p.1
 (q.1,p.2 || q.2)
theorem Ze2 {l:Lv} {s step:Int}:∀ {n:Nat} {b:Bd},(ZbW l s step n b).1.kind=b.kind∧(ZbW l s step n b).1.owner=b.owner∧(ZbW l s step n b).1.y=b.y∧(ZbW l s step n b).1.vy=b.vy∧(ZbW l s step n b).1.aim=b.aim∧(ZbW l s step n b).1.life=b.life∧(ZbW l s step n b).1.timer=b.timer∧((ZbW l s step n b).1.vx=b.vx∨(ZbW l s step n b).1.vx=0)
 | 0,b=>⟨rfl,rfl,rfl,rfl,rfl,rfl,rfl,.inl rfl⟩
 | n + 1,b=>by
  unfold ZbW
  split
  ·exact ⟨rfl,rfl,rfl,rfl,rfl,rfl,rfl,.inr rfl⟩
  ·exact Ze2 (n:=n) (b:={ b with x:=b.x + step })
theorem ZiP {l:Lv} {s step:Int}:∀ {n:Nat} {b:Bd},(ZbH l s step n b).1.kind=b.kind∧(ZbH l s step n b).1.owner=b.owner∧(ZbH l s step n b).1.x=b.x∧(ZbH l s step n b).1.vx=b.vx∧(ZbH l s step n b).1.aim=b.aim∧(ZbH l s step n b).1.life=b.life∧(ZbH l s step n b).1.timer=b.timer∧((ZbH l s step n b).1.vy=b.vy∨(ZbH l s step n b).1.vy=0)
 | 0,b=>⟨rfl,rfl,rfl,rfl,rfl,rfl,rfl,.inl rfl⟩
 | n + 1,b=>by
  unfold ZbH
  split
  ·exact ⟨rfl,rfl,rfl,rfl,rfl,rfl,rfl,.inr rfl⟩
  ·exact ZiP (n:=n) (b:={ b with y:=b.y + step })
theorem Ze1 {l:Lv} {s step:Int}:∀ {n:Nat} {b:Bd},ZaG l b.x b.y s=false→ZaG l (ZbW l s step n b).1.x (ZbW l s step n b).1.y s=false
 | 0,b,h=>h
 | n + 1,b,h=>by
  unfold ZbW
  split
  ·exact h
  ·rename_i hn
   exact Ze1 (n:=n) (b:={ b with x:=b.x + step }) (by simpa using hn)
theorem ZiO {l:Lv} {s step:Int}:∀ {n:Nat} {b:Bd},ZaG l b.x b.y s=false→ZaG l (ZbH l s step n b).1.x (ZbH l s step n b).1.y s=false
 | 0,b,h=>h
 | n + 1,b,h=>by
  unfold ZbH
  split
  ·exact h
  ·rename_i hn
   exact ZiO (n:=n) (b:={ b with y:=b.y + step }) (by simpa using hn)
theorem Zdb (l:Lv) (b:Bd):(Zbd l b).1.kind=b.kind∧(Zbd l b).1.owner=b.owner∧(Zbd l b).1.aim=b.aim∧(Zbd l b).1.life=b.life∧(Zbd l b).1.timer=b.timer∧((Zbd l b).1.vx=b.vx∨(Zbd l b).1.vx=0)∧((Zbd l b).1.vy=b.vy∨(Zbd l b).1.vy=0):=by
 have h1:=Ze2 (l:=l) (s:=Zas b.kind) (step:=sgnV b.vx) (n:=b.vx.natAbs) (b:=b)
 have h2:=ZiP (l:=l) (s:=Zas b.kind) (step:=sgnV (ZbW l (Zas b.kind) (sgnV b.vx) b.vx.natAbs b).1.vy) (n:=(ZbW l (Zas b.kind) (sgnV b.vx) b.vx.natAbs b).1.vy.natAbs) (b:=(ZbW l (Zas b.kind) (sgnV b.vx) b.vx.natAbs b).1)
 unfold Zbd
 refine ⟨h2.1.trans h1.1,h2.2.1.trans h1.2.1,h2.2.2.2.2.1.trans h1.2.2.2.2.1,h2.2.2.2.2.2.1.trans h1.2.2.2.2.2.1,h2.2.2.2.2.2.2.1.trans h1.2.2.2.2.2.2.1,?_,?_⟩
 ·show (ZbH _ _ _ _ _).1.vx=_∨_
  rw [h2.2.2.2.1]
  exact h1.2.2.2.2.2.2.2
 ·rcases h2.2.2.2.2.2.2.2 with e|e
  ·exact .inl (e.trans h1.2.2.2.1)
  ·exact .inr e
theorem ZnH {l:Lv} {b:Bd} (h:ZaG l b.x b.y (Zas b.kind)=false):ZaG l (Zbd l b).1.x (Zbd l b).1.y (Zas b.kind)=false:=by
 unfold Zbd
 exact ZiO (Ze1 h)
def bitV (n m:Int):Int:=IntKind.i64.wrap (BitVec.ofInt 64 n &&& BitVec.ofInt 64 m).toNat
def Zbo (b:Bd) (i:Int):Int×Int:=if bitV i 2 ≠ 0∧bitV i 1=0 then (3,1) else if bitV i 1 ≠ 0∧bitV i 2=0 then (-3,-1) else (0,b.aim)
noncomputable def ZcZ (l:Lv) (b:Bd) (i:Int):Int:=if bitV i 4 ≠ 0∧ZaG l b.x (b.y + 1) (Zas b.kind)=true then -9 else if 8 < b.vy + 1 then 8 else b.vy + 1
def Zff (t:Int):Int:=if 0 < t then t - 1 else t
noncomputable def ZaQ (l:Lv) (b:Bd) (i:Int):Bd×Bool :=
 if bitV i 8 ≠ 0∧Zff b.timer=0 then ({ b with vx:=(Zbo b i).1,aim:=(Zbo b i).2,vy:=ZcZ l b i,timer:=12 },true)
 else ({ b with vx:=(Zbo b i).1,aim:=(Zbo b i).2,vy:=ZcZ l b i,timer:=Zff b.timer },false)
def Zcn (b:Bd):Bd:=if (0≤b.x∧b.x≤1000)∧(0≤b.y∧b.y≤1000)∧(-1≤b.aim∧b.aim≤1) then ⟨1,b.owner,b.x + 4,b.y + 4,6 * b.aim,0,0,0,25⟩ else default
noncomputable def Zfn (l:Lv) (k:Int):Bd:=⟨0,k,(ZcV l k).1,(ZcV l k).2,0,0,1,3,0⟩
theorem Zpa (b:Bd) (i:Int):-3≤(Zbo b i).1∧(Zbo b i).1≤3:=by unfold Zbo;split;simp;split<;>simp
theorem ZnV {b:Bd} (i:Int) (h:b.aim=1∨b.aim=-1):(Zbo b i).2=1∨(Zbo b i).2=-1:=by unfold Zbo;split;simp;split;simp;exact h
theorem Zpb {l:Lv} {b:Bd} (i:Int) (h:-15≤b.vy):-15≤ZcZ l b i∧ZcZ l b i≤8:=by unfold ZcZ;split;omega;split<;>omega
theorem ZlZ {t:Int} (h:0≤t∧t≤12):0≤Zff t∧Zff t≤12:=by unfold Zff;split<;>omega
theorem ZjM {l:Lv} {n:Int} {b:Bd} {i:Int} (h:ZbF l n b) (hk:b.kind=0) (hl:1≤b.life):ZbF l n (ZaQ l b i).1∧(ZaQ l b i).1.kind=0∧(ZaQ l b i).1.owner=b.owner∧(ZaQ l b i).1.life=b.life∧(ZaQ l b i).1.x=b.x∧(ZaQ l b i).1.y=b.y∧((ZaQ l b i).1.aim=1∨(ZaQ l b i).1.aim=-1):=by
 have h1:=Zpa b i
 have h2:(Zbo b i).2=1∨(Zbo b i).2=-1:=ZnV i (by rcases h.aim with e|e<;>omega)
 have h3:=Zpb (l:=l) i h.vy.1
 have h4:0≤b.timer∧b.timer≤12:=by rcases h.timer with e|e|e|e<;>omega
 have h5:=ZlZ h4
 have h6:0≤b.life∧b.life≤3:=by rcases h.life with e|e<;>omega
 unfold ZaQ
 split
 ·exact ⟨⟨h.kind,h.owner,h.free,⟨by show -15≤(Zbo b i).1;omega,by show (Zbo b i).1≤15;omega⟩,⟨h3.1,by show ZcZ l b i≤15;omega⟩,.inl ⟨hk,h2⟩,.inl ⟨hk,h6⟩,.inr (.inl ⟨hk,by show b.life ≠ 0;omega,by show (0:Int)≤12;omega,by show (12:Int)≤12;omega⟩)⟩,hk,rfl,rfl,rfl,rfl,h2⟩
 ·exact ⟨⟨h.kind,h.owner,h.free,⟨by show -15≤(Zbo b i).1;omega,by show (Zbo b i).1≤15;omega⟩,⟨h3.1,by show ZcZ l b i≤15;omega⟩,.inl ⟨hk,h2⟩,.inl ⟨hk,h6⟩,.inr (.inl ⟨hk,by show b.life ≠ 0;omega,h5.1,h5.2⟩)⟩,hk,rfl,rfl,rfl,rfl,h2⟩
theorem shot_ok {l:Lv} {n:Int} {b:Bd} (hl:ZaZ l) (h:ZbF l n b) (hk:b.kind=0):ZbF l n (Zcn b)∧(Zcn b).kind=1:=by
 have h0:=h.free
 have hs:Zas b.kind=12:=by rw [hk];rfl
 rw [hs] at h0
 have h1:=Zef h0
 have h2:=Zmh hl (by omega) h0
 have h3:b.aim=1∨b.aim=-1:=by rcases h.aim with e|e<;>omega
 unfold Zcn
 rw [if_pos ⟨⟨h1.1,h1.2.1⟩,⟨h1.2.2.1,h1.2.2.2⟩,by omega⟩]
 refine ⟨⟨by show (0:Int)≤1∧(1:Int)≤2;omega,h.owner,?_,by show -15≤6 * b.aim∧6 * b.aim≤15;omega,by show -15≤(0:Int)∧(0:Int)≤15;omega,.inr ⟨by show (1:Int) ≠ 0;omega,rfl⟩,.inr ⟨by show (1:Int) ≠ 0;omega,rfl⟩,.inr (.inr (.inl ⟨rfl,by show (1:Int)≤25;omega,by show (25:Int)≤25;omega⟩))⟩,rfl⟩
 exact Zo4 (x':=b.x + 4) (y':=b.y + 4) (s':=4) h0 (by omega) (by omega) (by omega) (by omega) (by omega) (by omega)
theorem ZnU {l:Lv} {p:Int} (hl:ZaZ l) (h0:0≤p) (h3:p≤3):∃ xy,Zfi l p xy:=by
 classical
 by_cases hd:∃ r c,r < l.length∧c < Zad l∧(Zam l r c:Int)=49 + p
 ·obtain ⟨r,c,h1,h2,h4⟩:=hd
  exact ⟨_,.inl ⟨r,c,h1,h2,h4,rfl⟩⟩
 ·-- the first tile that is not a wall
  have key:∀ m:Nat,(∀ r c,r < l.length→c < Zad l→r * Zad l + c < m→Zam l r c=35)∨∃ r c,r < l.length∧c < Zad l∧Zam l r c ≠ 35∧∀ r' c',r' < l.length→c' < Zad l→r' * Zad l + c' < r * Zad l + c→Zam l r' c'=35:=by
   intro m
   induction m with
   | zero=>exact .inl fun r c _ _ h=>absurd h (Nat.not_lt_zero _)
   | succ m ih =>
    rcases ih with ih|ih
    ·by_cases hx:∃ r c,r < l.length∧c < Zad l∧r * Zad l + c=m∧Zam l r c ≠ 35
     ·obtain ⟨r,c,h1,h2,h4,h5⟩:=hx
      exact .inr ⟨r,c,h1,h2,h5,fun r' c' g1 g2 g3=>ih r' c' g1 g2 (by omega)⟩
     ·refine .inl fun r c h1 h2 h4=>?_
      by_cases e:r * Zad l + c=m
      ·exact Classical.byContradiction fun hn=>hx ⟨r,c,h1,h2,e,hn⟩
      ·exact ih r c h1 h2 (by omega)
    ·exact .inr ih
  rcases key (l.length * Zad l) with hk|⟨r,c,h1,h2,h4,h5⟩
  ·obtain ⟨r,c,h1,h2,h4⟩:=hl.open_
   refine absurd (hk r c h1 h2 ?_) h4
   have:(r + 1) * Zad l≤l.length * Zad l:=Nat.mul_le_mul_right _ h1
   rw [Nat.succ_mul] at this
   omega
  ·refine ⟨_,.inr ⟨fun r c g1 g2 g3=>hd ⟨r,c,g1,g2,g3⟩,r,c,h1,h2,h4,fun r' c' hdn=>?_,rfl⟩⟩
   have hr':r' < l.length:=by unfold Dn at hdn;omega
   refine h5 r' c' hr' hdn.2 ?_
   rcases hdn.1 with g|⟨g1,g2⟩
   ·have:(r' + 1) * Zad l≤r * Zad l:=Nat.mul_le_mul_right _ g
    rw [Nat.succ_mul] at this
    have:=hdn.2
    omega
   ·rw [g1];omega
theorem Zo9 {l:Lv} {p:Int} (hl:ZaZ l) (h0:0≤p) (h3:p≤3):Zfi l p (ZcV l p):=by
 obtain ⟨xy,h⟩:=ZnU hl h0 h3
 rw [Zh0 hl h0 h3 h]
 exact h
theorem ZmA {l:Lv} {n k:Int} (hl:ZaZ l) (h0:0≤k) (h3:k≤3) (hn:k < n):ZbF l n (Zfn l k) :=
 ⟨by show (0:Int)≤0∧(0:Int)≤2;omega,⟨h0,hn⟩,ZnT hl h0 (Zo9 hl h0 h3),by show -15≤(0:Int)∧(0:Int)≤15;omega,by show -15≤(0:Int)∧(0:Int)≤15;omega,.inl ⟨rfl,.inl rfl⟩,.inl ⟨rfl,by show (0:Int)≤3;omega,by show (3:Int)≤3;omega⟩,.inr (.inl ⟨rfl,by show (3:Int) ≠ 0;omega,by show (0:Int)≤0;omega,by show (0:Int)≤12;omega⟩)⟩
theorem ZcG {α:Type} [Inhabited α] {xs:List α} {i j:Nat} {y:α} (h:i < xs.length):(xs.set i y).getD j default=if i=j then y else xs.getD j default:=by
 rw [List.getD_eq_getElem?_getD,List.getElem?_set]
 split
 ·rename_i e
  subst e
  simp [h]
 ·simp [List.getD_eq_getElem?_getD]
theorem Zd5 {α:Type} [Inhabited α] {xs ys:List α} {j:Nat}:(xs++ys).getD j default=if j < xs.length then xs.getD j default else ys.getD (j - xs.length) default:=by
 split
 ·rename_i h
  rw [List.getD_eq_getElem?_getD,List.getD_eq_getElem?_getD,List.getElem?_append_left h]
 ·rename_i h
  rw [List.getD_eq_getElem?_getD,List.getD_eq_getElem?_getD,List.getElem?_append_right (by omega)]
theorem Zdi {α:Type} [Inhabited α] {xs:List α} {k:Nat} (h:k < xs.length):xs.getD k default ∈ xs:=by
 rw [List.getD_eq_getElem?_getD,List.getElem?_eq_getElem h]
 exact List.getElem_mem h
theorem Ze9 {α:Type} [Inhabited α] {xs:List α} {k:Nat} (h:k < xs.length):xs.take (k + 1)=xs.take k++[xs.getD k default]:=by
 rw [List.take_succ_eq_append_getElem h,List.getD_eq_getElem?_getD,List.getElem?_eq_getElem h]
 rfl
structure PsOk (l:Lv) (n:Nat) (ps:List Bd):Prop where
 len:ps.length=n
 ok:∀ k,k < n→ZbF l n (ps.getD k default)
 kind:∀ k,k < n→(ps.getD k default).kind=0
 owner:∀ k,k < n→(ps.getD k default).owner=k
structure RsOk (l:Lv) (n:Nat) (rs:List Bd):Prop where
 ok:∀ b ∈ rs,ZbF l n b
 kind:∀ b ∈ rs,b.kind ≠ 0
section
variable {l:Lv} {n:Nat} {ps rs:List Bd}
theorem PsOk.set (h:PsOk l n ps) {k:Nat} {b:Bd} (hk:k < n) (hb:ZbF l n b) (h0:b.kind=0) (ho:b.owner=k):PsOk l n (ps.set k b):=by
 have hlt:k < ps.length:=by rw [h.len];exact hk
 refine ⟨by rw [List.length_set,h.len],fun j hj=>?_,fun j hj=>?_,fun j hj=>?_⟩
 all_goals
  rw [ZcG hlt]
  split
 ·exact hb
 ·exact h.ok j hj
 ·exact h0
 ·exact h.kind j hj
 ·rename_i e;rw [← e];exact ho
 ·exact h.owner j hj
theorem RsOk.nil:RsOk l n []:=⟨fun b hb=>(by cases hb),fun b hb=>(by cases hb)⟩
theorem RsOk.push (h:RsOk l n rs) {b:Bd} (hb:ZbF l n b) (h0:b.kind ≠ 0):RsOk l n (rs++[b]):=by
 refine ⟨fun c hc=>?_,fun c hc=>?_⟩
 all_goals rcases List.mem_append.1 hc with hc|hc
 ·exact h.ok c hc
 ·rw [List.mem_singleton.1 hc];exact hb
 ·exact h.kind c hc
 ·rw [List.mem_singleton.1 hc];exact h0
theorem RsOk.at (h:RsOk l n rs) {k:Nat} (hk:k < rs.length):ZbF l n (rs.getD k default)∧(rs.getD k default).kind ≠ 0:=⟨h.ok _ (Zdi hk),h.kind _ (Zdi hk)⟩
theorem ZfK {w:Wd} (h:ZaV w):PsOk w.level w.scores.length (w.bodies.take w.scores.length)∧RsOk w.level w.scores.length (w.bodies.drop w.scores.length):=by
 have hm:=h.m
 have hg:∀ k,k < w.scores.length→(w.bodies.take w.scores.length).getD k default=w.bodies.getD k default:=fun k hk=>by
  rw [List.getD_eq_getElem?_getD,List.getD_eq_getElem?_getD,List.getElem?_take,if_pos hk]
 refine ⟨⟨by rw [List.length_take];omega,fun k hk=>?_,fun k hk=>?_,fun k hk=>?_⟩,⟨fun b hb=>?_,fun b hb=>?_⟩⟩
 ·rw [hg k hk];exact h.bodies k (by omega)
 ·rw [hg k hk];exact (h.players k hk).1
 ·rw [hg k hk];exact (h.players k hk).2
 all_goals
  obtain ⟨k,hk,rfl⟩:=List.getElem_of_mem hb
  have hk':w.scores.length + k < w.bodies.length:=by rw [List.length_drop] at hk;omega
  have e:(w.bodies.drop w.scores.length)[k]=w.bodies.getD (w.scores.length + k) default:=by
   rw [List.getElem_drop,List.getD_eq_getElem?_getD,List.getElem?_eq_getElem hk']
   rfl
  rw [e]
 ·exact h.bodies _ hk'
 ·exact h.others _ (by omega) hk'
theorem ZgH {t s:Int} {sc:List Int} (hl:ZaZ l) (ht:0≤t∧t≤100000) (hs:0≤s∧s≤65535) (hn:1≤sc.length∧sc.length≤4) (hsc:∀ k,k < sc.length→0≤sc.getD k default∧sc.getD k default≤1000000) (hp:PsOk l sc.length ps) (hr:RsOk l sc.length rs) (hm:ps.length + rs.length≤24):ZaV ⟨l,t,s,sc,ps++rs⟩:=by
 have hlen:=hp.len
 refine ⟨hl,ht,hs,hn,hsc,?_,fun k hk=>?_,fun k hk=>?_,fun k h1 h2=>?_⟩
 ·show sc.length≤(ps++rs).length∧(ps++rs).length≤24
  rw [List.length_append];omega
 ·show ZbF l sc.length ((ps++rs).getD k default)
  have hk':k < (ps++rs).length:=hk
  rw [List.length_append] at hk'
  rw [Zd5]
  split
  ·exact hp.ok k (by omega)
  ·exact (hr.at (by omega)).1
 ·show ((ps++rs).getD k default).kind=0∧((ps++rs).getD k default).owner=k
  have hk':k < sc.length:=hk
  rw [Zd5,if_pos (by omega)]
  exact ⟨hp.kind k hk',hp.owner k hk'⟩
 ·show ((ps++rs).getD k default).kind ≠ 0
  have h1':sc.length≤k:=h1
  have h2':k < (ps++rs).length:=h2
  rw [List.length_append] at h2'
  rw [Zd5,if_neg (by omega)]
  exact (hr.at (by omega)).2
end
noncomputable def Zdq (l:Lv) (k:Nat) (i:Int) (s:List Bd×List Bd):List Bd×List Bd :=
 if (s.1.getD k default).life=0 then (s.1.set k (if (s.1.getD k default).timer - 1=0 then Zfn l k else { s.1.getD k default with timer:=(s.1.getD k default).timer - 1 }),s.2)
 else if (ZaQ l (s.1.getD k default) i).2=true∧s.1.length + s.2.length < 24 then (s.1.set k (ZaQ l (s.1.getD k default) i).1,s.2++[Zcn (ZaQ l (s.1.getD k default) i).1])
 else (s.1.set k (ZaQ l (s.1.getD k default) i).1,s.2)
noncomputable def plTo (l:Lv) (row:List Int) (s:List Bd×List Bd):Nat→List Bd×List Bd
 | 0=>s
 | k + 1=>Zdq l k (row.getD k default) (plTo l row s k)
theorem ZmX {l:Lv} {n k:Nat} {i:Int} {s:List Bd×List Bd} (hl:ZaZ l) (hn:n≤4) (hk:k < n) (hp:PsOk l n s.1) (hr:RsOk l n s.2) (hm:s.1.length + s.2.length≤24) :
  PsOk l n (Zdq l k i s).1∧RsOk l n (Zdq l k i s).2∧(Zdq l k i s).1.length + (Zdq l k i s).2.length≤24∧∀ j,k < j→(Zdq l k i s).1.getD j default=s.1.getD j default:=by
 have hb:=hp.ok k hk
 have hb0:=hp.kind k hk
 have hbo:=hp.owner k hk
 have hlt:k < s.1.length:=by rw [hp.len];exact hk
 have hset:∀ (b:Bd) j,k < j→(s.1.set k b).getD j default=s.1.getD j default:=fun b j hj=>by rw [ZcG hlt,if_neg (by omega)]
 have hsl:∀ b:Bd,(s.1.set k b).length=s.1.length:=fun b=>List.length_set
 unfold Zdq
 by_cases h0:(s.1.getD k default).life=0
 ·rw [if_pos h0]
  have ht:1≤(s.1.getD k default).timer∧(s.1.getD k default).timer≤20:=by rcases hb.timer with e|e|e|e<;>omega
  refine ⟨?_,hr,by rw [hsl];exact hm,hset _⟩
  split
  ·exact hp.set hk (ZmA hl (by omega) (by omega) (by omega)) rfl rfl
  ·rename_i h1
   exact hp.set hk ⟨hb.kind,hb.owner,hb.free,hb.vx,hb.vy,hb.aim,hb.life,.inl ⟨hb0,h0,by show 1≤_ - 1;omega,by show _ - 1≤_;omega⟩⟩ hb0 hbo
 ·rw [if_neg h0]
  have hlife:1≤(s.1.getD k default).life:=by rcases hb.life with e|e<;>omega
  obtain ⟨q1,q2,q3,q4,q5,q6,q7⟩:=ZjM (i:=i) hb hb0 hlife
  split
  ·rename_i h1
   obtain ⟨r1,r2⟩:=shot_ok hl q1 q2
   refine ⟨hp.set hk q1 q2 (q3.trans hbo),hr.push r1 (by rw [r2];decide),?_,hset _⟩
   show (s.1.set k _).length + (s.2++[_]).length≤24
   rw [hsl,List.length_append]
   have:=h1.2
   simp
   omega
  ·exact ⟨hp.set hk q1 q2 (q3.trans hbo),hr,by show (s.1.set k _).length + _≤24;rw [hsl];exact hm,hset _⟩
theorem ZoR {l:Lv} {n:Nat} {row:List Int} {s:List Bd×List Bd} (hl:ZaZ l) (hn:n≤4) (hp:PsOk l n s.1) (hr:RsOk l n s.2) (hm:s.1.length + s.2.length≤24):∀ k,k≤n →
  PsOk l n (plTo l row s k).1∧RsOk l n (plTo l row s k).2∧(plTo l row s k).1.length + (plTo l row s k).2.length≤24∧∀ j,k≤j→(plTo l row s k).1.getD j default=s.1.getD j default
 | 0,_=>⟨hp,hr,hm,fun _ _=>rfl⟩
 | k + 1,hk=>by
  obtain ⟨h1,h2,h3,h4⟩:=ZoR hl hn hp hr hm (row:=row) k (by omega)
  obtain ⟨g1,g2,g3,g4⟩:=ZmX (i:=row.getD k default) hl hn (by omega:k < n) h1 h2 h3
  exact ⟨g1,g2,g3,fun j hj=>(g4 j (by omega)).trans (h4 j (by omega))⟩
noncomputable def ZbS (l:Lv) (b:Bd):Option Bd :=
 if b.kind=0∧0 < b.life then some (Zbd l b).1
 else if b.kind=1 then (if (Zbd l b).2=true∨b.timer - 1=0 then none else some { (Zbd l b).1 with timer:=b.timer - 1 })
 else some b
noncomputable def mvPl (l:Lv) (b:Bd):Bd:=if 0 < b.life then (Zbd l b).1 else b
theorem mv_ok {l:Lv} {n:Int} {b:Bd} (h:ZbF l n b):ZbF l n (Zbd l b).1:=by
 obtain ⟨h1,h2,h3,h4,h5,h6,h7⟩:=Zdb l b
 have hf:=ZnH h.free
 have hv:=h.vx;have hw:=h.vy
 refine ⟨by rw [h1];exact h.kind,by rw [h2];exact h.owner,by rw [h1];exact hf,?_,?_,by rw [h1,h3];exact h.aim,by rw [h1,h4];exact h.life,by rw [h1,h2,h4,h5];exact h.timer⟩
 ·rcases h6 with e|e<;>rw [e]<;>omega
 ·rcases h7 with e|e<;>rw [e]<;>omega
theorem ZpZ {l:Lv} {b:Bd} (h:b.kind=0):ZbS l b=some (mvPl l b):=by
 unfold ZbS mvPl
 by_cases h1:0 < b.life
 ·rw [if_pos ⟨h,h1⟩,if_pos h1]
 ·rw [if_neg (fun e=>h1 e.2),if_neg (by omega),if_neg h1]
theorem Zl8 {l:Lv} {n:Int} {b:Bd} (h:ZbF l n b):ZbF l n (mvPl l b)∧(mvPl l b).kind=b.kind∧(mvPl l b).owner=b.owner:=by
 unfold mvPl
 split
 ·exact ⟨mv_ok h,(Zdb l b).1,(Zdb l b).2.1⟩
 ·exact ⟨h,rfl,rfl⟩
theorem ZmP {l:Lv} {n:Int} {b c:Bd} (h:ZbF l n b) (h0:b.kind ≠ 0) (hc:ZbS l b=some c):ZbF l n c∧c.kind ≠ 0:=by
 unfold ZbS at hc
 rw [if_neg (fun e=>h0 e.1)] at hc
 split at hc
 ·rename_i h1
  split at hc
  ·cases hc
  ·rename_i h2
   cases hc
   have hm:=mv_ok h
   obtain ⟨g1,g2,g3,g4,g5,g6,g7⟩:=Zdb l b
   have ht:1≤b.timer∧b.timer≤25:=by rcases h.timer with e|e|e|e<;>omega
   have ht2:b.timer - 1 ≠ 0:=fun e=>h2 (.inr e)
   exact ⟨⟨hm.kind,hm.owner,hm.free,hm.vx,hm.vy,hm.aim,hm.life,.inr (.inr (.inl ⟨g1.trans h1,by show 1≤b.timer - 1;omega,by show b.timer - 1≤25;omega⟩))⟩,by show (Zbd l b).1.kind ≠ 0;rw [g1];exact h0⟩
 ·cases hc
  exact ⟨h,h0⟩
theorem ZjE {l:Lv} {n:Nat} {ps rs:List Bd} (hp:PsOk l n ps) (hr:RsOk l n rs) :
  (ps++rs).filterMap (ZbS l)=ps.map (mvPl l)++rs.filterMap (ZbS l)∧PsOk l n (ps.map (mvPl l))∧RsOk l n (rs.filterMap (ZbS l))∧(rs.filterMap (ZbS l)).length≤rs.length:=by
 have hk:∀ b ∈ ps,b.kind=0:=fun b hb=>by
  obtain ⟨k,hk,rfl⟩:=List.getElem_of_mem hb
  have:=hp.kind k (by rw [← hp.len];exact hk)
  rwa [List.getD_eq_getElem?_getD,List.getElem?_eq_getElem hk] at this
 have hg:∀ k,k < n→(ps.map (mvPl l)).getD k default=mvPl l (ps.getD k default):=fun k hk=>by
  have:k < ps.length:=by rw [hp.len];exact hk
  rw [List.getD_eq_getElem?_getD,List.getD_eq_getElem?_getD,List.getElem?_map,List.getElem?_eq_getElem this]
  rfl
 refine ⟨?_,⟨by rw [List.length_map,hp.len],fun k h=>?_,fun k h=>?_,fun k h=>?_⟩,⟨fun c hc=>?_,fun c hc=>?_⟩,List.length_filterMap_le _ _⟩
 ·rw [List.filterMap_append]
  congr 1
  have:∀ (xs:List Bd),(∀ b ∈ xs,b.kind=0)→xs.filterMap (ZbS l)=xs.map (mvPl l):=by
   intro xs
   induction xs with
   | nil=>intro _;rfl
   | cons b r ih =>
    intro h
    rw [List.filterMap_cons,ZpZ (h b (List.mem_cons_self ..)),List.map_cons,ih fun c hc=>h c (List.mem_cons_of_mem _ hc)]
  exact this ps hk
 ·rw [hg k h];exact (Zl8 (hp.ok k h)).1
 ·rw [hg k h,(Zl8 (hp.ok k h)).2.1];exact hp.kind k h
 ·rw [hg k h,(Zl8 (hp.ok k h)).2.2];exact hp.owner k h
 ·obtain ⟨b,hb,e⟩:=List.mem_filterMap.1 hc
  exact (ZmP (hr.ok b hb) (hr.kind b hb) e).1
 ·obtain ⟨b,hb,e⟩:=List.mem_filterMap.1 hc
  exact (ZmP (hr.ok b hb) (hr.kind b hb) e).2
def metAt (ps:List Bd) (b:Bd) (o:Int) (k:Nat):Prop:=(k:Int) ≠ o∧0 < (ps.getD k default).life∧Zl7 (ps.getD k default) b=true
instance (ps:List Bd) (b:Bd) (o:Int) (k:Nat):Decidable (metAt ps b o k):=by unfold metAt;infer_instance
def ZeG (ps:List Bd) (b:Bd) (o:Int):Nat→Nat→Int
 | 0,_=>-1
 | n + 1,k=>if metAt ps b o k then k else ZeG ps b o n (k + 1)
def metV (ps:List Bd) (b:Bd) (o:Int):Int:=ZeG ps b o ps.length 0
theorem ZmN {ps:List Bd} {b:Bd} {o:Int}:∀ (n k:Nat),ZeG ps b o n k=-1∨((k:Int)≤ZeG ps b o n k∧ZeG ps b o n k < (k:Int) + n∧metAt ps b o (ZeG ps b o n k).toNat)
 | 0,_=>.inl rfl
 | n + 1,k=>by
  unfold ZeG
  split
  ·rename_i h
   exact .inr ⟨Int.le_refl _,by omega,by rwa [Int.toNat_natCast]⟩
  ·rcases ZmN n (k + 1) with h|⟨h1,h2,h3⟩
   ·exact .inl h
   ·exact .inr ⟨by omega,by omega,h3⟩
theorem ZhM (ps:List Bd) (b:Bd) (o:Int):metV ps b o=-1∨∃ k:Nat,metV ps b o=k∧k < ps.length∧0 < (ps.getD k default).life:=by
 rcases ZmN (ps:=ps) (b:=b) (o:=o) ps.length 0 with h|⟨h1,h2,h3⟩
 ·exact .inl h
 ·refine .inr ⟨(metV ps b o).toNat,?_,?_,h3.2.1⟩
  ·unfold metV;omega
  ·unfold metV;omega
theorem Zda {ps:List Bd} {b:Bd} {o:Int} {k:Nat} (hk:k < ps.length) (h:¬ metAt ps b o k):ZeG ps b o (ps.length - k) k=ZeG ps b o (ps.length - (k + 1)) (k + 1):=by
 obtain ⟨n,hn⟩:∃ n,ps.length - k=n + 1:=⟨ps.length - k - 1,by omega⟩
 rw [hn,show ps.length - (k + 1)=n by omega,ZeG,if_neg h]
theorem ZiN {ps:List Bd} {b:Bd} {o:Int} {k:Nat} (hk:k < ps.length) (h:metAt ps b o k):ZeG ps b o (ps.length - k) k=k:=by
 obtain ⟨n,hn⟩:∃ n,ps.length - k=n + 1:=⟨ps.length - k - 1,by omega⟩
 rw [hn,ZeG,if_pos h]
theorem ZkK {ps:List Bd} {b:Bd} {o:Int}:ZeG ps b o (ps.length - ps.length) ps.length=-1:=by
 rw [Nat.sub_self];rfl
def hitV (b:Bd):Bd:=if b.life - 1=0 then { b with life:=0,vx:=0,vy:=0,timer:=20 } else { b with life:=b.life - 1 }
def Zdj (sc:List Int) (k:Nat):List Int:=if sc.getD k default < 1000000 then sc.set k (sc.getD k default + 1) else sc
def ScOk (n:Nat) (sc:List Int):Prop:=sc.length=n∧∀ k,k < n→0≤sc.getD k default∧sc.getD k default≤1000000
theorem ZkU {n:Nat} {sc:List Int} {k:Nat} (h:ScOk n sc):ScOk n (Zdj sc k):=by
 unfold Zdj
 split
 ·rename_i hlt
  refine ⟨by rw [List.length_set,h.1],fun j hj=>?_⟩
  by_cases hk:k < sc.length
  ·rw [ZcG hk]
   split
   ·rename_i e
    subst e
    have:=h.2 k hj
    omega
   ·exact h.2 j hj
  ·rw [List.set_eq_of_length_le (by omega)]
   exact h.2 j hj
 ·exact h
theorem hit_ok {l:Lv} {n:Int} {b:Bd} (h:ZbF l n b) (h0:b.kind=0) (hl:0 < b.life):ZbF l n (hitV b)∧(hitV b).kind=0∧(hitV b).owner=b.owner:=by
 have h3:b.life≤3:=by rcases h.life with e|e<;>omega
 have ht:0≤b.timer∧b.timer≤12:=by rcases h.timer with e|e|e|e<;>omega
 unfold hitV
 split
 ·exact ⟨⟨h.kind,h.owner,h.free,by show -15≤(0:Int)∧(0:Int)≤15;omega,by show -15≤(0:Int)∧(0:Int)≤15;omega,h.aim,.inl ⟨h0,by show (0:Int)≤0;omega,by show (0:Int)≤3;omega⟩,.inl ⟨h0,rfl,by show (1:Int)≤20;omega,by show (20:Int)≤20;omega⟩⟩,h0,rfl⟩
 ·exact ⟨⟨h.kind,h.owner,h.free,h.vx,h.vy,h.aim,.inl ⟨h0,by show (0:Int)≤b.life - 1;omega,by show b.life - 1≤3;omega⟩,.inr (.inl ⟨h0,by show b.life - 1 ≠ 0;omega,ht.1,ht.2⟩)⟩,h0,rfl⟩
structure Hs where
 ps:List Bd
 sc:List Int
 left:List Bd
def ZeP (s:Hs) (b:Bd):Hs :=
 if b.kind ≠ 1 then { s with left:=s.left++[b] }
 else if metV s.ps b b.owner < 0 then { s with left:=s.left++[b] }
 else { s with ps:=s.ps.set (metV s.ps b b.owner).toNat (hitV (s.ps.getD (metV s.ps b b.owner).toNat default)),sc:=if (s.ps.getD (metV s.ps b b.owner).toNat default).life - 1=0 then Zdj s.sc b.owner.toNat else s.sc }
def Zfh (s:Hs) (b:Bd):Hs :=
 if b.kind=2∧0≤metV s.ps b (-1) then { s with sc:=Zdj s.sc (metV s.ps b (-1)).toNat } else { s with left:=s.left++[b] }
structure HsOk (l:Lv) (n:Nat) (s:Hs):Prop where
 ps:PsOk l n s.ps
 sc:ScOk n s.sc
 rs:RsOk l n s.left
theorem Zm4 {l:Lv} {n:Nat} {s:Hs} {b:Bd} (h:HsOk l n s) (hb:ZbF l n b) (h0:b.kind ≠ 0):HsOk l n (ZeP s b):=by
 unfold ZeP
 split
 ·exact ⟨h.ps,h.sc,h.rs.push hb h0⟩
 ·split
  ·exact ⟨h.ps,h.sc,h.rs.push hb h0⟩
  ·rename_i h2
   rcases ZhM s.ps b b.owner with e|⟨k,e,hk,hl⟩
   ·omega
   ·rw [e,Int.toNat_natCast]
    have hk':k < n:=by rw [← h.ps.len];exact hk
    obtain ⟨q1,q2,q3⟩:=hit_ok (h.ps.ok k hk') (h.ps.kind k hk') hl
    refine ⟨h.ps.set hk' q1 q2 (q3.trans (h.ps.owner k hk')),?_,h.rs⟩
    show ScOk n (if _ then _ else _)
    split
    ·exact ZkU h.sc
    ·exact h.sc
theorem Zg3 {l:Lv} {n:Nat} {s:Hs} {b:Bd} (h:HsOk l n s) (hb:ZbF l n b) (h0:b.kind ≠ 0):HsOk l n (Zfh s b):=by
 unfold Zfh
 split
 ·exact ⟨h.ps,ZkU h.sc,h.rs⟩
 ·exact ⟨h.ps,h.sc,h.rs.push hb h0⟩
def Zed (s:Hs) (rs:List Bd):Hs:=rs.foldl ZeP s
def ZdS (s:Hs) (rs:List Bd):Hs:=rs.foldl Zfh s
theorem Zk6 (s:Hs) (b:Bd):(ZeP s b).left.length≤s.left.length + 1:=by
 unfold ZeP;split
 ·simp
 ·split
  ·simp
  ·show s.left.length≤_;omega
theorem ZkF (s:Hs) (b:Bd):(Zfh s b).left.length≤s.left.length + 1:=by
 unfold Zfh;split
 ·show s.left.length≤_;omega
 ·simp
theorem Zm3 {l:Lv} {n:Nat}:∀ {rs:List Bd} {s:Hs},HsOk l n s→RsOk l n rs→HsOk l n (Zed s rs)∧(Zed s rs).left.length≤s.left.length + rs.length
 | [],s,h,_=>⟨h,Nat.le_refl _⟩
 | b :: r,s,h,hr=>by
  have h1:=Zm3 (rs:=r) (Zm4 h (hr.ok b (List.mem_cons_self ..)) (hr.kind b (List.mem_cons_self ..))) ⟨fun c hc=>hr.ok c (List.mem_cons_of_mem _ hc),fun c hc=>hr.kind c (List.mem_cons_of_mem _ hc)⟩
  have h2:=Zk6 s b
  refine ⟨h1.1,?_⟩
  have h3:=h1.2
  show (Zed (ZeP s b) r).left.length≤s.left.length + (r.length + 1)
  omega
theorem ZmG {l:Lv} {n:Nat}:∀ {rs:List Bd} {s:Hs},HsOk l n s→RsOk l n rs→HsOk l n (ZdS s rs)∧(ZdS s rs).left.length≤s.left.length + rs.length
 | [],s,h,_=>⟨h,Nat.le_refl _⟩
 | b :: r,s,h,hr=>by
  have h1:=ZmG (rs:=r) (Zg3 h (hr.ok b (List.mem_cons_self ..)) (hr.kind b (List.mem_cons_self ..))) ⟨fun c hc=>hr.ok c (List.mem_cons_of_mem _ hc),fun c hc=>hr.kind c (List.mem_cons_of_mem _ hc)⟩
  have h2:=ZkF s b
  refine ⟨h1.1,?_⟩
  have h3:=h1.2
  show (ZdS (Zfh s b) r).left.length≤s.left.length + (r.length + 1)
  omega
theorem ZnS {s:Hs} {rs:List Bd} {k:Nat} (hk:k < rs.length):Zed s (rs.take (k + 1))=ZeP (Zed s (rs.take k)) (rs.getD k default):=by
 rw [Ze9 hk,Zed,List.foldl_append];rfl
theorem ZnG {s:Hs} {rs:List Bd} {k:Nat} (hk:k < rs.length):ZdS s (rs.take (k + 1))=Zfh (ZdS s (rs.take k)) (rs.getD k default):=by
 rw [Ze9 hk,ZdS,List.foldl_append];rfl
theorem Zf1:∀ {rs:List Bd} {s:Hs},(ZdS s rs).ps=s.ps
 | [],_=>rfl
 | b :: r,s=>by
  show (ZdS (Zfh s b) r).ps=_
  rw [Zf1]
  unfold Zfh
  split<;>rfl
def Zdm (l:Lv) (i:Int):Int×Int:=(((Zay l).getD i.toNat default).getD 0 default,((Zay l).getD i.toNat default).getD 1 default)
def lies (x y:Int) (b:Bd):Bool:=decide (b.kind=2∧b.x=x∧b.y=y)
def Zdl (l:Lv) (t s:Int) (sc:List Int) (bs:List Bd):Wd :=
 if t % 16 ≠ 0∨Zay l=[]∨24≤bs.length then ⟨l,t,s,sc,bs⟩
 else if bs.any (lies (Zdm l (Zaj s (Zay l).length).2).1 (Zdm l (Zaj s (Zay l).length).2).2)=true then ⟨l,t,(Zaj s (Zay l).length).1,sc,bs⟩
 else ⟨l,t,(Zaj s (Zay l).length).1,sc,bs++[⟨2,0,(Zdm l (Zaj s (Zay l).length).2).1,(Zdm l (Zaj s (Zay l).length).2).2,0,0,0,0,0⟩]⟩
noncomputable def st1 (w:Wd) (row:List Int):List Bd×List Bd:=plTo w.level row (w.bodies.take w.scores.length,w.bodies.drop w.scores.length) w.scores.length
noncomputable def st2 (w:Wd) (row:List Int):List Bd×List Bd:=((st1 w row).1.map (mvPl w.level),(st1 w row).2.filterMap (ZbS w.level))
noncomputable def st3 (w:Wd) (row:List Int):Hs:=Zed ⟨(st2 w row).1,w.scores,[]⟩ (st2 w row).2
noncomputable def st4 (w:Wd) (row:List Int):Hs:=ZdS ⟨(st3 w row).ps,(st3 w row).sc,[]⟩ (st3 w row).left
noncomputable def goV (w:Wd) (row:List Int):Wd:=Zdl w.level (w.tick + 1) (Zaz w.seed) (st4 w row).sc ((st4 w row).ps++(st4 w row).left)
open Classical in
noncomputable def ZbY (w:Wd) (row:List Int):Wd:=if ZaV w∧w.tick ≠ 100000∧ZbD row w.scores.length=true then goV w row else w
theorem Zo6 {w:Wd} (row:List Int) (h:ZaV w):PsOk w.level w.scores.length (st1 w row).1∧RsOk w.level w.scores.length (st1 w row).2∧(st1 w row).1.length + (st1 w row).2.length≤24:=by
 obtain ⟨h1,h2⟩:=ZfK h
 have hm:=h.m
 obtain ⟨g1,g2,g3,_⟩:=ZoR (row:=row) (s:=(w.bodies.take w.scores.length,w.bodies.drop w.scores.length)) h.level h.n.2 h1 h2 (by show (w.bodies.take _).length + (w.bodies.drop _).length≤24;rw [List.length_take,List.length_drop];omega) w.scores.length (Nat.le_refl _)
 exact ⟨g1,g2,g3⟩
theorem Zo7 {w:Wd} (row:List Int) (h:ZaV w):PsOk w.level w.scores.length (st2 w row).1∧RsOk w.level w.scores.length (st2 w row).2∧(st2 w row).1.length + (st2 w row).2.length≤24:=by
 obtain ⟨h1,h2,h3⟩:=Zo6 row h
 obtain ⟨_,g2,g3,g4⟩:=ZjE h1 h2
 refine ⟨g2,g3,?_⟩
 show ((st1 w row).1.map _).length + ((st1 w row).2.filterMap _).length≤24
 rw [List.length_map]
 omega
theorem Zo8 {w:Wd} (row:List Int) (h:ZaV w):HsOk w.level w.scores.length (st3 w row)∧(st3 w row).ps.length + (st3 w row).left.length≤24:=by
 obtain ⟨h1,h2,h3⟩:=Zo7 row h
 obtain ⟨g1,g2⟩:=Zm3 (s:=⟨(st2 w row).1,w.scores,[]⟩) ⟨h1,⟨rfl,h.scores⟩,RsOk.nil⟩ h2
 refine ⟨g1,?_⟩
 have e1:=g1.ps.len
 have e2:=h1.len
 have g2':(st3 w row).left.length≤0 + (st2 w row).2.length:=g2
 have e1':(st3 w row).ps.length=w.scores.length:=e1
 omega
theorem Zm8 {w:Wd} (row:List Int) (h:ZaV w):HsOk w.level w.scores.length (st4 w row)∧(st4 w row).ps.length + (st4 w row).left.length≤24:=by
 obtain ⟨h1,h2⟩:=Zo8 row h
 obtain ⟨g1,g2⟩:=ZmG (s:=⟨(st3 w row).ps,(st3 w row).sc,[]⟩) ⟨h1.ps,h1.sc,RsOk.nil⟩ h1.rs
 refine ⟨g1,?_⟩
 have e1':(st4 w row).ps.length=w.scores.length:=g1.ps.len
 have e2:=h1.ps.len
 have g2':(st4 w row).left.length≤0 + (st3 w row).left.length:=g2
 omega
theorem Zmi {l:Lv} (hl:ZaZ l) {s:List Int} (h:s ∈ Zay l):∃ r c:Nat,s=[16 * (c:Int) + 4,16 * (r:Int) + 4]∧r < l.length∧c < Zad l∧Zam l r c=111:=by
 obtain ⟨r,hr,h⟩:=List.mem_flatMap.1 h
 obtain ⟨c,hc,h⟩:=List.mem_filterMap.1 h
 split at h
 ·rename_i ht
  cases h
  exact ⟨r,c,rfl,List.mem_range.1 hr,List.mem_range.1 hc,ht⟩
 ·cases h
theorem item_ok {l:Lv} {n:Nat} (hl:ZaZ l) (hn:1≤n) {i:Int} (hi:i.toNat < (Zay l).length):ZbF l n ⟨2,0,(Zdm l i).1,(Zdm l i).2,0,0,0,0,0⟩:=by
 obtain ⟨r,c,e,hr,hc,ht⟩:=Zmi hl (Zdi hi)
 have hx:(Zdm l i).1=16 * (c:Int) + 4:=by unfold Zdm;rw [e];rfl
 have hy:(Zdm l i).2=16 * (r:Int) + 4:=by unfold Zdm;rw [e];rfl
 have:=hl.w20;have:=hl.n12
 refine ⟨by show (0:Int)≤2∧(2:Int)≤2;omega,by show (0:Int)≤0∧(0:Int) < n;omega,?_,by show -15≤(0:Int)∧(0:Int)≤15;omega,by show -15≤(0:Int)∧(0:Int)≤15;omega,.inr ⟨by show (2:Int) ≠ 0;omega,rfl⟩,.inr ⟨by show (2:Int) ≠ 0;omega,rfl⟩,.inr (.inr (.inr ⟨rfl,rfl,rfl⟩))⟩
 show ZaG l (Zdm l i).1 (Zdm l i).2 8=false
 rw [hx,hy,ZeQ]
 rintro (hn|⟨r',c',h1,h2,h3,h4,hw⟩)
 ·omega
 ·obtain rfl:r'=r:=by omega
  obtain rfl:c'=c:=by omega
  exact hw ⟨hr,by rw [hl.rows _ hr];exact hc,by omega⟩
theorem Zla {l:Lv} (hl:ZaZ l):(Zay l).length≤240:=by
 have h1:=ZfD l l.length
 have h2:=hl.w20;have h3:=hl.n12
 have h4:l.length * Zad l≤12 * 20:=Nat.mul_le_mul h3 h2
 unfold Zay
 omega
theorem Zqa {l:Lv} {t s:Int} {sc:List Int} {ps rs:List Bd} (hl:ZaZ l) (ht:0≤t∧t≤100000) (hs:0≤s∧s≤65535) (hn:1≤sc.length∧sc.length≤4) (hsc:∀ k,k < sc.length→0≤sc.getD k default∧sc.getD k default≤1000000) (hp:PsOk l sc.length ps) (hr:RsOk l sc.length rs) (hm:ps.length + rs.length≤24):ZaV (Zdl l t s sc (ps++rs)):=by
 have hrb:=ZdH s (Zay l).length
 unfold Zdl
 split
 ·exact ZgH hl ht hs hn hsc hp hr hm
 ·rename_i h1
  split
  ·exact ZgH hl ht ⟨hrb.1,hrb.2.1⟩ hn hsc hp hr hm
  ·rw [List.append_assoc]
   have hne:0 < (Zay l).length:=List.length_pos_iff.2 fun e=>h1 (.inr (.inl e))
   have hlt:ps.length + rs.length < 24:=by
    have:¬ 24≤(ps++rs).length:=fun e=>h1 (.inr (.inr e))
    rw [List.length_append] at this
    omega
   refine ZgH hl ht ⟨hrb.1,hrb.2.1⟩ hn hsc hp (hr.push (item_ok hl hn.1 ?_) (by show (2:Int) ≠ 0;omega)) (by rw [List.length_append];simp;omega)
   rcases hrb.2.2.2 with e|e<;>omega
theorem step_ok {w:Wd} {row:List Int} (h:ZaV w):ZaV (ZbY w row):=by
 unfold ZbY
 split
 ·rename_i hc
  obtain ⟨g1,g2⟩:=Zm8 row h
  have ht:=h.tick
  have e:=g1.sc.1
  unfold goV
  refine Zqa h.level ⟨by omega,by have:=hc.2.1;omega⟩ (Zb1 _) ?_ ?_ ?_ ?_ g2
  ·rw [e];exact h.n
  ·rw [e];exact g1.sc.2
  ·rw [e];exact g1.ps
  ·rw [e];exact g1.rs
 ·exact h
def bodyI (b:Bd):List Int:=[b.kind,b.owner,b.x,b.y,b.vx,b.vy,b.aim,b.life,b.timer]
def Zen (w:Wd):List Int:=[w.tick,w.seed,(w.scores.length:Int)]++w.scores++w.bodies.flatMap bodyI
noncomputable def Zbp (w:Wd):List UInt8:=if ZaW w=true then Zb2 (Zen w) else []
noncomputable def Zgm (w:Wd):Int:=Zms (Zbp w)
theorem ZfY (bs:List Bd):(bs.flatMap bodyI).length=9 * bs.length:=by
 induction bs with
 | nil=>rfl
 | cons b r ih=>rw [List.flatMap_cons,List.length_append,ih,List.length_cons];show 9 + 9 * r.length=_;omega
theorem Zkq {bs:List Bd} {k:Nat} (hk:k < bs.length):(bs.take (k + 1)).flatMap bodyI=(bs.take k).flatMap bodyI++bodyI (bs.getD k default):=by
 rw [List.take_succ_eq_append_getElem hk,List.flatMap_append,List.getD_eq_getElem?_getD,List.getElem?_eq_getElem hk]
 simp
def Zcj (r:List Int) (j:Nat):Bd:=⟨r.getD j 0,r.getD (j + 1) 0,r.getD (j + 2) 0,r.getD (j + 3) 0,r.getD (j + 4) 0,r.getD (j + 5) 0,r.getD (j + 6) 0,r.getD (j + 7) 0,r.getD (j + 8) 0⟩
def ZbI (r:List Int):List Bd:=(List.range (r.length / 9)).map fun k=>Zcj r (9 * k)
theorem ZlW (b:Bd) (t:List Int) (j:Nat):Zcj (bodyI b++t) (9 + j)=Zcj t j:=by
 have h:∀ i,(bodyI b++t).getD (9 + i) 0=t.getD i 0:=fun i=>by
  rw [List.getD_eq_getElem?_getD,List.getElem?_append_right (by show 9≤9 + i;omega),show 9 + i - (bodyI b).length=i by show 9 + i - 9=i;omega,← List.getD_eq_getElem?_getD]
 unfold Zcj
 rw [Nat.add_assoc,Nat.add_assoc,Nat.add_assoc,Nat.add_assoc,Nat.add_assoc,Nat.add_assoc,Nat.add_assoc,Nat.add_assoc]
 rw [h,h,h,h,h,h,h,h,h]
theorem Zjp (b:Bd) (t:List Int):ZbI (bodyI b++t)=b :: ZbI t:=by
 have hl:(bodyI b++t).length / 9=t.length / 9 + 1:=by rw [List.length_append,show (bodyI b).length=9 from rfl];omega
 unfold ZbI
 rw [hl,List.range_succ_eq_map,List.map_cons,List.map_map,show Zcj (bodyI b++t) (9 * 0)=b from rfl]
 refine congrArg (b :: ·) ?_
 refine List.map_congr_left fun k _=>?_
 show Zcj (bodyI b++t) (9 * (k + 1))=Zcj t (9 * k)
 rw [show 9 * (k + 1)=9 + 9 * k by omega]
 exact ZlW b t (9 * k)
theorem ZnI {r:List Int} (h:9≤r.length):r=bodyI (Zcj r 0)++r.drop 9:=by
 match r,h with
 | _ :: _ :: _ :: _ :: _ :: _ :: _ :: _ :: _ :: _,_=>rfl
theorem ZfX:∀ (m:Nat) (r:List Int),r.length=9 * m→(ZbI r).flatMap bodyI=r
 | 0,r,h=>by
  have:r=[]:=List.eq_nil_of_length_eq_zero (by omega)
  subst this
  rfl
 | m + 1,r,h=>by
  have hs:=ZnI (r:=r) (by omega)
  have ih:=ZfX m (r.drop 9) (by rw [List.length_drop];omega)
  rw [hs,Zjp,List.flatMap_cons,ih]
def Zb7 (l:Lv) (xs:List Int):Wd:=⟨l,xs.getD 0 0,xs.getD 1 0,(xs.drop 3).take (xs.getD 2 0).toNat,ZbI ((xs.drop 3).drop (xs.getD 2 0).toNat)⟩
def ZfL (xs:List Int):Prop:=3≤xs.length∧1≤xs.getD 2 0∧xs.getD 2 0≤4∧3 + xs.getD 2 0≤(xs.length:Int)∧((xs.length:Int) - 3 - xs.getD 2 0) % 9=0
instance (xs:List Int):Decidable (ZfL xs):=by unfold ZfL;infer_instance
theorem Zlj {l:Lv} {xs:List Int} (h:ZfL xs):Zen (Zb7 l xs)=xs:=by
 obtain ⟨h1,h2,h3,h4,h5⟩:=h
 match xs,h1 with
 | a :: b :: c :: r,_ =>
  have e:(a :: b :: c :: r).getD 2 0=c:=rfl
  rw [e] at h2 h3 h4 h5
  simp only [List.length_cons] at h4 h5
  have hd:((a :: b :: c :: r).drop 3)=r:=rfl
  unfold Zen Zb7
  rw [e,hd,ZfX ((r.length - c.toNat) / 9) _ (by rw [List.length_drop];omega),List.append_assoc,List.take_append_drop,List.length_take]
  show a :: b :: _ :: r=_
  rw [show ((min c.toNat r.length:Nat):Int)=c by omega]
theorem ZnZ (w:Wd):(Zen w).length=3 + w.scores.length + 9 * w.bodies.length:=by
 rw [Zen,List.length_append,ZfY,List.length_append]
 simp [Nat.add_comm,Nat.add_left_comm]
noncomputable def Za2 (l:Lv) (s:List UInt8):Option Wd:=match Za6 s 0 with
 | some (xs,q)=>if q=(s.length:Int)∧ZfL xs∧ZaW (Zb7 l xs)=true then some (Zb7 l xs) else none
 | none=>none
theorem ZkZ {l:Lv} {s:List UInt8} {w:Wd} (h:Za2 l s=some w):ZaV w∧w.level=l∧Zbp w=s:=by
 unfold Za2 at h
 split at h
 ·rename_i xs q hu
  split at h
  ·rename_i hc
   obtain ⟨c1,c2,c3⟩:=hc
   cases h
   obtain ⟨_,_,_,_,g⟩:=Zcf hu
   refine ⟨Zax.1 c3,rfl,?_⟩
   rw [Zbp,if_pos c3,Zlj c2,g,c1]
   simp
  ·cases h
 ·cases h
theorem ZgG {w:Wd}:(Zbp w).length≤1400:=by
 unfold Zbp
 split
 ·rename_i h
  have hp:=Zax.1 h
  have h1:=ZkP (Zen w)
  have h2:=ZnZ w
  have h3:=hp.n
  have h4:=hp.m
  omega
 ·simp
theorem Zlc (c:UInt8):(BitVec.ofInt 8 ((c.toNat:Nat):Int)).toNat=c.toNat:=by
 have hc:=c.toNat_lt
 rw [BitVec.ofInt_natCast,BitVec.toNat_ofNat]
 exact Nat.mod_eq_of_lt (by omega)
theorem u8_xor (a b:UInt8):((BitVec.ofInt 8 ((a.toNat:Nat):Int) ^^^ BitVec.ofInt 8 ((b.toNat:Nat):Int)).toNat:Nat)=(a ^^^ b).toNat:=by
 rw [BitVec.toNat_xor,Zlc,Zlc,UInt8.toNat_xor]
def ZbL (a b:List UInt8) (k:Nat):List UInt8:=(ZbB a b).take k++b.drop k
theorem Zh7 {a b:List UInt8} {k:Nat} (h:k≤b.length):(ZbL a b k).length=b.length:=by
 unfold ZbL
 rw [List.length_append,List.length_take,List.length_drop,ZcL]
 omega
theorem Zmn {a b:List UInt8} {k:Nat} (h:k < b.length):(ZbL a b k).getD k 0=b.getD k 0:=by
 unfold ZbL
 rw [List.getD_eq_getElem?_getD,List.getElem?_append_right (by rw [List.length_take];omega),List.length_take,ZcL,List.getElem?_drop,← List.getD_eq_getElem?_getD]
 congr 1
 omega
theorem Zll {a b:List UInt8} {k:Nat} (h:k < b.length) (ha:k < a.length):(ZbL a b k).set k (b.getD k 0 ^^^ a.getD k 0)=ZbL a b (k + 1):=by
 have hx:=Zh9 a b k h
 rw [if_pos ha] at hx
 have hl:=ZcL a b
 unfold ZbL
 rw [List.set_append_right _ _ (by rw [List.length_take];omega),List.length_take,hl,show k - min k b.length=0 by omega]
 have hd:b.drop k=b.getD k 0 :: b.drop (k + 1):=by
  rw [List.getD_eq_getElem?_getD,List.getElem?_eq_getElem h]
  exact List.drop_eq_getElem_cons h
 rw [hd,List.set_cons_zero,List.take_succ_eq_append_getElem (by omega),List.append_assoc,← hx]
 congr 1
 rw [List.getD_eq_getElem?_getD,List.getElem?_eq_getElem (by omega)]
 rfl
theorem Zh8:∀ (a b:List UInt8) (k:Nat),a.length≤k→(ZbB a b).drop k=b.drop k
 | _,[],k,_=>by simp [ZbB]
 | [],_ :: _,k,_=>by simp [ZbB]
 | x :: a,y :: b,0,h=>by simp at h
 | x :: a,y :: b,k + 1,h=>by
  rw [ZbB,List.drop_succ_cons,List.drop_succ_cons]
  exact Zh8 a b k (by simpa using h)
theorem Zej {a b:List UInt8} {k:Nat} (h:b.length≤k∨a.length≤k):ZbL a b k=ZbB a b:=by
 unfold ZbL
 rcases h with h|h
 ·rw [List.drop_of_length_le h,List.append_nil,List.take_of_length_le (by rw [ZcL];exact h)]
 ·rw [← Zh8 a b k h,List.take_append_drop]
theorem Zpw:∀ {s:List UInt8} {k:Nat},k < zLen s→k < s.length∧s.getD k 0=0
 | [],k,h=>by cases h
 | y :: r,k,h=>by
  unfold zLen at h
  split at h
  ·rename_i hy
   match k with
   | 0=>exact ⟨by simp,hy⟩
   | k + 1 =>
    have:=Zpw (s:=r) (k:=k) (by omega)
    exact ⟨by simp;omega,by simpa using this.2⟩
  ·omega
theorem Znn:∀ {s:List UInt8},zLen s < s.length→s.getD (zLen s) 0 ≠ 0
 | [],h=>by cases h
 | y :: r,h=>by
  unfold zLen at h ⊢
  split
  ·rename_i hy
   rw [if_pos hy] at h
   have:=Znn (s:=r) (by simpa using h)
   simpa using this
  ·rename_i hy
   simpa using hy
theorem ZoO:∀ {s:List UInt8} {k:Nat},k < oLen s→k < s.length∧s.getD k 0 ≠ 0
 | [],k,h=>by cases h
 | y :: r,k,h=>by
  unfold oLen at h
  split at h
  ·omega
  ·rename_i hy
   match k with
   | 0=>exact ⟨by simp,by simpa using hy⟩
   | k + 1 =>
    have:=ZoO (s:=r) (k:=k) (by omega)
    exact ⟨by simp;omega,by simpa using this.2⟩
theorem ZmS:∀ {s:List UInt8},oLen s < s.length→s.getD (oLen s) 0=0
 | [],h=>by cases h
 | y :: r,h=>by
  unfold oLen at h ⊢
  split
  ·rename_i hy
   simpa using hy
  ·rename_i hy
   rw [if_neg hy] at h
   have:=ZmS (s:=r) (by simpa using h)
   simpa using this
def zEnd (s:List UInt8) (i:Nat):Nat:=i + zLen (s.drop i)
def oEnd (s:List UInt8) (i:Nat):Nat:=i + oLen (s.drop i)
theorem getD_dropU {s:List UInt8} {i k:Nat}:(s.drop i).getD k 0=s.getD (i + k) 0:=by
 rw [List.getD_eq_getElem?_getD,List.getElem?_drop,← List.getD_eq_getElem?_getD]
theorem Zmo {s:List UInt8} {i:Nat} (h:i≤s.length):i≤zEnd s i∧zEnd s i≤s.length:=by
 have:=Zpx (s.drop i)
 rw [List.length_drop] at this
 unfold zEnd
 omega
theorem Zl9 {s:List UInt8} {i:Nat} (h:i≤s.length):i≤oEnd s i∧oEnd s i≤s.length:=by
 have:=Zma (s.drop i)
 rw [List.length_drop] at this
 unfold oEnd
 omega
theorem zEnd_in {s:List UInt8} {i k:Nat} (h1:i≤k) (h2:k < zEnd s i):s.getD k 0=0:=by
 have:=(Zpw (s:=s.drop i) (k:=k - i) (by unfold zEnd at h2;omega)).2
 rwa [getD_dropU,show i + (k - i)=k by omega] at this
theorem Znm {s:List UInt8} {i:Nat} (h:zEnd s i < s.length):s.getD (zEnd s i) 0 ≠ 0:=by
 have:=Znn (s:=s.drop i) (by rw [List.length_drop];unfold zEnd at h;omega)
 rwa [getD_dropU] at this
theorem oEnd_in {s:List UInt8} {i k:Nat} (h1:i≤k) (h2:k < oEnd s i):s.getD k 0 ≠ 0:=by
 have:=(ZoO (s:=s.drop i) (k:=k - i) (by unfold oEnd at h2;omega)).2
 rwa [getD_dropU,show i + (k - i)=k by omega] at this
theorem ZmR {s:List UInt8} {i:Nat} (h:oEnd s i < s.length):s.getD (oEnd s i) 0=0:=by
 have:=ZmS (s:=s.drop i) (by rw [List.length_drop];unfold oEnd at h;omega)
 rwa [getD_dropU] at this
theorem ZmV {s:List UInt8} {i:Nat} (h:i < s.length):Zau (s.drop i)=Zaf ((zEnd s i - i:Nat):Int)++Za1 ((s.take (oEnd s (zEnd s i))).drop (zEnd s i))++Zau (s.drop (oEnd s (zEnd s i))):=by
 have hne:s.drop i ≠ []:=fun e=>by
  have:=congrArg List.length e
  rw [List.length_drop] at this
  simp at this
  omega
 have e1:zEnd s i - i=zLen (s.drop i):=by unfold zEnd;omega
 have e2:(s.drop i).drop (zLen (s.drop i))=s.drop (zEnd s i):=by rw [List.drop_drop];rfl
 have e3:ZcP (s.drop i)=(s.take (oEnd s (zEnd s i))).drop (zEnd s i):=by
  unfold ZcP
  rw [e2]
  unfold oEnd
  rw [List.drop_take]
  congr 1
  omega
 have e4:behind (s.drop i)=s.drop (oEnd s (zEnd s i)):=by
  unfold behind
  rw [e2,List.drop_drop]
  rfl
 rw [Ziu hne,e1,e3,e4]
theorem ZkR {s:List UInt8} {i:Nat} (h:i < s.length):i < oEnd s (zEnd s i)∧oEnd s (zEnd s i)≤s.length:=by
 obtain ⟨h1,h2⟩:=Zmo (s:=s) (i:=i) (by omega)
 obtain ⟨h3,h4⟩:=Zl9 (s:=s) (i:=zEnd s i) h2
 refine ⟨?_,h4⟩
 apply Classical.byContradiction
 intro hn
 have e1:zEnd s i=i:=by omega
 have e2:oEnd s i=i:=by rw [e1] at hn h3;omega
 have z:=Znm (s:=s) (i:=i) (by omega)
 have o:=ZmR (s:=s) (i:=i) (by omega)
 rw [e1] at z
 rw [e2] at o
 exact z o
end Go.Proofs.YthfaongbpdnlnaaGreat
