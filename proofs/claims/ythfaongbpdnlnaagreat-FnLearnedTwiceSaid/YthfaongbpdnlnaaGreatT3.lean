/- What is proved: the calculus of abstract states: a list that holds something is not nil.
   Conditions: none beyond those that each lemma names. -/
import Derived.Laws.Cover3
import Derived.Test.YthfaongbpdnlnaaGreatT18
import Derived.Test.YthfaongbpdnlnaaGreatT50
import Derived.Test.YthfaongbpdnlnaaGreatT93c
namespace Go.Proofs.YthfaongbpdnlnaaGreat
set_option maxHeartbeats 4000000
set_option maxRecDepth 20000
set_option linter.unusedSimpArgs false
set_option linter.unusedVariables false
open Go.RowKit Go.ChangeShapes Go.WideShapes
section
variable {H:Type} {enc:TypeId×Value→H} {P:Program}
theorem Zgi (hl:laidOutB P=true) {W W':World} (hb:Below W.heap.size W W'):∀ {ts:List TypeId} {vs:List Value} {ds:List (DataW H)} {ps:List MemPlace},
  (ts.all fun t=>P.readableRec t && decide (t < P.types.size))=true→DataW.TrodAll enc P W 0 (fun _=>true) true ts vs ds ps→(∀ x ∈ ps,x.block < W.heap.size) →
  DataW.TrodAll enc P W' 0 (fun b=>decide (b < W.heap.size)) true ts vs ds ps
 | [],[],[],_,_,h,_=>h
 | t :: ts,v :: vs,d :: ds,ps,ha,h,hlt=>by
  obtain ⟨p,q,h1,h2,e⟩:=h
  rw [List.all_cons,Bool.and_eq_true,Bool.and_eq_true] at ha
  subst e
  exact ⟨p,q,Below.trod hl ha.1.1 (of_decide_eq_true ha.1.2) h1 hb (fun x hx=>hlt x (by simp [hx])),Zgi hl hb ha.2 h2 (fun x hx=>hlt x (by simp [hx])),rfl⟩
 | [],_ :: _,_,_,_,h,_=>by cases h
 | [],[],_ :: _,_,_,h,_=>by cases h
 | _ :: _,[],_,_,_,h,_=>by cases h
 | _ :: _,_ :: _,[],_,_,h,_=>by cases h
theorem ZpW {f:Func} {s:ChangeSpec} {W W':World} {args:Array Value} {ds gs:List (DataW H)} {before:List MemPlace} (hl:laidOutB P=true)
  (hps:(f.params.toList.all fun t=>P.readableRec t && decide (t < P.types.size))=true) {tb:TypeId} (hrt:f.resultTypes=#[tb]) (hbt:P.underlying tb=some .bool) (hv:s.vars=[])
  (hs:s.fn H ds={ results:=[.lit (.bool true)],args:=ds,vars:=[] })
  (hW:DataW.Whole enc P f.params.toList s.vars false W args.toList ds gs before) (hb:Below W.heap.size W W') :
  s.post enc P f false true false false W args (.bool true) W':=by
 have hW':=hW
 obtain ⟨p,q,hA,hV,e,hfz,hnd⟩:=hW
 have hgs:gs=[]∧q=[]:=by
  rw [hv] at hV
  cases gs with
  | nil=>exact ⟨rfl,hV⟩
  | cons g gs=>cases hV
 obtain ⟨rfl,rfl⟩:=hgs
 have hlt:∀ x ∈ p,x.block < W.heap.size:=fun x hx=>hW'.lt x (by rw [e];simp [hx])
 refine ⟨ds,[],before,[],p,[],hW',?_,?_,?_,hb.frame _,fun h=>by cases h⟩
 ·rw [hrt,List.append_nil,hs]
  exact trodAll_mk1 (shut_bool hbt true)
 ·rw [List.append_nil,hs]
  exact Zgi hl hb hps hA hlt
 ·rw [List.append_nil,hs,hv]
  rfl
theorem ZjB {C:Checked} {os:Os} {f:FuncId} {fn:Func} {s:ChangeSpec} (own:ownKnob C.prog.godebug=none) (started:os.Started) (noInit:C.prog.inits.idxOf? f=none) (hfn:C.prog.funcs[f]?=some fn)
  (hl:laidOutB C.prog=true) (hps:(fn.params.toList.all fun t=>C.prog.readableRec t && decide (t < C.prog.types.size))=true) {tb:TypeId} (hrt:fn.resultTypes=#[tb]) (hbt:C.prog.underlying tb=some .bool)
  (hv:s.vars=[]) (hs:∀ (W:World) (vs:List Value) (ds:List (DataW H)) (ps:List MemPlace),DataW.TrodAll enc C.prog W 0 (fun _=>true) true fn.params.toList vs ds ps→s.fn H ds={ results:=[.lit (.bool true)],args:=ds,vars:=[] })
  (witness:∃ (w:World) (tape:Tape) (i:Input),w.os=os∧(w.forCall tape i).Shaped C.prog∧i.vars=[]∧Input.okWide C.prog (w.forCall tape i) .any w.heap.size f i ∧
   s.pre6 enc C.prog fn [] false (w.forCall tape i).memory i.args∧({}:Assume).holds C.prog (lone (Frame.enter C.prog f i.args .normal) [] (w.forCall tape i)))
  (contract:∀ (W:World) (base:Nat) (args:Array Value) (ds:List (DataW H)) (p:List MemPlace),(∀ (j:Nat) t v,fn.params[j]?=some t→args[j]?=some v→Value.okWide C.prog W .any base t v)→DataW.TrodAll enc C.prog W 0 (fun _=>true) true fn.params.toList args.toList ds p→(∀ x ∈ p,x.block < W.heap.size) →
   Calls C.prog f args W fun e W'=>e=.returned (.bool true)∧Below W.heap.size W W') :
  ReturnsInHanded {} C os f .any (s.pre6 enc C.prog fn [] false) (s.post enc C.prog fn false true false false):=by
 refine returnsInHanded_of_change own started noInit hfn witness ?_
 intro W base args ds gs before hok hW _ _
 have hW':=hW
 obtain ⟨p,q,hA,hV,e,_,_⟩:=hW
 refine (contract W base args ds p hok hA (fun x hx=>hW'.lt x (by rw [e];simp [hx]))).mono fun e W' ⟨he,hb⟩=>?_
 exact ⟨_,he,ZpW hl hps hrt hbt hv (hs W _ _ _ hA) hW' hb⟩
end
def TY.fits (P:Program):TY→Option (List Field×Nat)→TypeId→Bool
 | .int k,none,t=>match P.underlying t with|some (.int k')=>decide (k'=k)|_=>false
 | .str,none,t=>match P.underlying t with|some .string=>true|_=>false
 | .bool,none,t=>match P.underlying t with|some .bool=>true|_=>false
 | .slice _ t',none,t=>match P.underlying t with|some (.slice e)=>decide (P.cellsOf e=t'.sz) && t'.fits P none e|_=>false
 | .struct f,none,t=>match P.underlying t with|some (.struct fs)=>decide (P.cellsOf t=f.sz) && f.fits P (some (fs.toList,0)) 0|_=>false
 | .unit,some ([],_),_=>true
 | .last a,some ([f],o),_=>decide (f.offset=o) && decide (P.cellsOf f.type=a.sz) && a.fits P none f.type
 | .pair a b,some (f :: fs,o),_=>decide (f.offset=o) && decide (P.cellsOf f.type=a.sz) && a.fits P none f.type && b.fits P (some (fs,o + a.sz)) 0
 | _,_,_=>false
theorem ZgP {α:Type} {R:List Value→α→Prop} {w:World} {ad:Addr} {k:Nat}:∀ (n:Nat),(∀ i,i < n→∃ c x,R c x∧c.length=k∧∀ j u,c[j]?=some u→w.cell? (ad.add (i * k + j))=some u) →
  ∃ (xs:List α) (cs:List Value),xs.length=n∧cs.length=n * k∧Zch R xs cs∧∀ j u,cs[j]?=some u→w.cell? (ad.add j)=some u
 | 0,_=>⟨[],[],rfl,by simp,rfl,fun j u h=>by simp at h⟩
 | n + 1,h=>by
  obtain ⟨xs,cs,h1,h2,h3,h4⟩:=ZgP n fun i hi=>h i (by omega)
  obtain ⟨c,x,hc,hk,hu⟩:=h n (by omega)
  refine ⟨xs++[x],cs++c,by simp [h1],by rw [List.length_append,h2,hk,Nat.add_mul];omega,h3.append (Zch.one hc),fun j u hj=>?_⟩
  by_cases hlt:j < cs.length
  ·exact h4 j u (by rwa [List.getElem?_append_left hlt] at hj)
  ·rw [List.getElem?_append_right (by omega),h2] at hj
   have:=hu _ u hj
   rwa [show n * k + (j - n * k)=j by omega] at this
section
variable {H:Type} {enc:TypeId×Value→H} {P:Program} {w:World} {spare:Nat→Bool} {held:Bool}
theorem Zcl:∀ (T:TY),
  (∀ (t:TypeId) (fuel:Nat) (cs:List Value) (d:DataW H×List MemPlace),T.fits P none t=true→DataW.trod enc P w 0 spare held fuel t cs=some d→∃ x,T.Rd w w.heap.size cs x) ∧
  (∀ (fs:List Field) (o n:Nat) (t:TypeId) (cs:List Value),T.fits P (some (fs,o)) t=true→cs.length=o + T.sz →
   (∀ f ∈ fs,∃ d,DataW.trod enc P w 0 spare held n f.type ((cs.drop f.offset).take (P.cellsOf f.type))=some d)→∃ x,T.Rd w w.heap.size (cs.drop o) x)
 | .int k=>by
  refine ⟨fun t fuel cs d hf h=>?_,fun fs o n t cs hf=>?_⟩
  ·unfold TY.fits at hf
   split at hf
   ·rename_i k' hk
    have e:k'=k:=of_decide_eq_true hf
    subst e
    obtain ⟨m,rfl,_,hw⟩:=DataW.trod_int hk h
    exact ⟨m,rfl,hw⟩
   ·cases hf
  ·unfold TY.fits at hf
   cases hf
 | .str=>by
  refine ⟨fun t fuel cs d hf h=>?_,fun fs o n t cs hf=>?_⟩
  ·unfold TY.fits at hf
   split at hf
   ·rename_i hk
    cases fuel with
    | zero=>simp [DataW.trod] at h
    | succ n =>
     unfold DataW.trod at h
     rw [hk] at h
     split at h<;>simp_all
     rename_i s
     exact ⟨s,rfl,h.1⟩
   ·cases hf
  ·unfold TY.fits at hf
   cases hf
 | .bool=>by
  refine ⟨fun t fuel cs d hf h=>?_,fun fs o n t cs hf=>?_⟩
  ·unfold TY.fits at hf
   split at hf
   ·rename_i hk
    cases fuel with
    | zero=>simp [DataW.trod] at h
    | succ n =>
     unfold DataW.trod at h
     rw [hk] at h
     split at h<;>simp_all
     rename_i b
     cases b
     ·exact Or.inl rfl
     ·exact Or.inr rfl
   ·cases hf
  ·unfold TY.fits at hf
   cases hf
 | .slice e' T=>by
  refine ⟨fun t fuel cs d hf h=>?_,fun fs o n t cs hf=>?_⟩
  ·unfold TY.fits at hf
   split at hf
   ·rename_i e hk
    rw [Bool.and_eq_true] at hf
    have hsz:P.cellsOf e=T.sz:=of_decide_eq_true hf.1
    rcases Go.Deep.open_slice hk h with ⟨rfl,_⟩|⟨a,len,cap,m,n,D,Pl,rfl,_,hl,hm,hmm,_,hi⟩
    ·exact ⟨[],none,0,0,rfl,rfl,by simp,by simp,[],⟨by simp,fun h=>absurd h (by simp)⟩,rfl⟩
    ·have hlm:len≤m:=by rw [hmm];split<;>omega
     obtain ⟨xs,cs,h1,h2,h3,h4⟩:=ZgP (R:=T.Rd w w.heap.size) (w:=w) (ad:=a) (k:=T.sz) len fun i hi'=>by
      obtain ⟨cs',hc,ht⟩:=hi i (by omega)
      obtain ⟨x,hx⟩:=(Zcl T).1 _ _ _ _ hf.2 ht
      rw [hsz] at hc
      obtain ⟨_,hcl,hat⟩:=World.cells?_some hc
      refine ⟨cs',x,hx,hx.len,fun j u hj=>?_⟩
      have hj':j < T.sz:=by have:=(List.getElem?_eq_some_iff.1 hj).1;rw [hx.len] at this;exact this
      rw [← Go.Deep.add_add,hat j hj',hj]
     subst h1
     refine ⟨xs,some a,xs.length,cap,rfl,rfl,hl,hm,cs,⟨h2,fun hne=>⟨a,rfl,?_,h4⟩⟩,h3⟩
     have:=h4 0 _ (List.getElem?_eq_getElem hne)
     have hb:=World.block_lt_of_cell? w _ this
     rwa [Za0] at hb
   ·cases hf
  ·unfold TY.fits at hf
   cases hf
 | .struct f=>by
  refine ⟨fun t fuel cs d hf h=>?_,fun fs o n t cs hf=>?_⟩
  ·unfold TY.fits at hf
   split at hf
   ·rename_i fs hk
    rw [Bool.and_eq_true] at hf
    have hsz:P.cellsOf t=f.sz:=of_decide_eq_true hf.1
    obtain ⟨xs,n,_,_,hl,hx,hg⟩:=DataW.trod_struct hk h
    have:=(Zcl f).2 fs.toList 0 n 0 cs hf.2 (by rw [hl,hsz];simp) (by
     intro g hgm
     obtain ⟨i,hi,rfl⟩:=List.getElem_of_mem hgm
     have h1:=hg i _ (by rw [← Array.getElem?_toList];exact List.getElem?_eq_getElem hi)
     have h2:i < xs.length:=by rw [hx];simpa using hi
     rw [List.getElem?_eq_getElem h2] at h1
     exact ⟨_,h1⟩)
    rw [List.drop_zero] at this
    exact this
   ·cases hf
  ·unfold TY.fits at hf
   cases hf
 | .unit=>by
  refine ⟨fun t fuel cs d hf h=>?_,fun fs o n t cs hf hl _=>?_⟩
  ·unfold TY.fits at hf
   cases hf
  ·have:cs.length≤o:=by rw [hl];simp [TY.sz]
   exact ⟨(),List.drop_eq_nil_of_le this⟩
 | .last a=>by
  refine ⟨fun t fuel cs d hf h=>?_,fun fs o n t cs hf hl hfs=>?_⟩
  ·unfold TY.fits at hf
   cases hf
  ·match fs,hf with
   | [f],hf =>
    unfold TY.fits at hf
    simp only [Bool.and_eq_true,decide_eq_true_eq] at hf
    obtain ⟨⟨h1,h2⟩,h3⟩:=hf
    obtain ⟨d,hd⟩:=hfs f (by simp)
    obtain ⟨x,hx⟩:=(Zcl a).1 _ _ _ _ h3 hd
    have hl':cs.length=o + a.sz:=hl
    refine ⟨x,?_⟩
    rw [h1,h2,List.take_of_length_le (by simp;omega)] at hx
    exact hx
   | [],hf=>unfold TY.fits at hf;cases hf
   | _ :: _ :: _,hf=>unfold TY.fits at hf;cases hf
 | .pair a b=>by
  refine ⟨fun t fuel cs d hf h=>?_,fun fs o n t cs hf hl hfs=>?_⟩
  ·unfold TY.fits at hf
   cases hf
  ·cases fs with
   | nil=>unfold TY.fits at hf;cases hf
   | cons f fs =>
    unfold TY.fits at hf
    simp only [Bool.and_eq_true,decide_eq_true_eq] at hf
    obtain ⟨⟨⟨h1,h2⟩,h3⟩,h4⟩:=hf
    obtain ⟨d,hd⟩:=hfs f (by simp)
    obtain ⟨x,hx⟩:=(Zcl a).1 _ _ _ _ h3 hd
    have hl':cs.length=o + (a.sz + b.sz):=hl
    obtain ⟨y,hy⟩:=(Zcl b).2 fs (o + a.sz) n 0 cs h4 (by omega) (fun g hg=>hfs g (by simp [hg]))
    refine ⟨(x,y),_,_,?_,hx,hy⟩
    rw [h1,h2,← List.drop_drop,List.take_append_drop]
def TY.val:TY→List Value→Value
 | .struct _,cs=>.agg cs.toArray
 | _,[v]=>v
 | _,_=>undef
theorem Ze3 {T:TY} {t:TypeId} {v:Value} {d:DataW H} {ps:List MemPlace} {r:Reach} {base:Nat} (hf:T.fits P none t=true) (hok:Value.okWide P w r base t v) (h:DataW.Trod enc P w 0 spare held t v d ps) :
  ∃ cs x,T.Rd w w.heap.size cs x∧v=T.val cs:=by
 obtain ⟨fuel,hd⟩:=h
 obtain ⟨x,hx⟩:=(Zcl T).1 _ _ _ _ hf hd
 refine ⟨_,x,hx,?_⟩
 cases T with
 | int k =>
  unfold TY.fits at hf
  split at hf
  ·rename_i k' hk
   obtain ⟨n,rfl⟩:=okWide_int hk hok
   rfl
  ·cases hf
 | str =>
  unfold TY.fits at hf
  split at hf
  ·rename_i hk
   obtain ⟨n,rfl⟩:=okWide_string hk hok
   rfl
  ·cases hf
 | bool =>
  unfold TY.fits at hf
  split at hf
  ·rename_i hk
   obtain ⟨n,rfl⟩:=okWide_bool hk hok
   rfl
  ·cases hf
 | slice e T =>
  unfold TY.fits at hf
  split at hf
  ·rename_i e' hk
   obtain ⟨a,n,c,rfl⟩:=okWide_slice hk hok
   rfl
  ·cases hf
 | struct f =>
  unfold TY.fits at hf
  split at hf
  ·rename_i fs hk
   obtain ⟨cs,rfl,_⟩:=okWide_struct hk hok
   rfl
  ·cases hf
 | unit=>unfold TY.fits at hf;cases hf
 | last a=>unfold TY.fits at hf;cases hf
 | pair a b=>unfold TY.fits at hf;cases hf
end
open Go.RowKit Ab
def bodyC (b:Bd):List T:=[.int .i64 b.kind,.int .i64 b.owner,.int .i64 b.x,.int .i64 b.y,.int .i64 b.vx,.int .i64 b.vy,.int .i64 b.aim,.int .i64 b.life,.int .i64 b.timer]
theorem ZcC (l:Lv) (x y s:Int):AC Tryz.prog 222 [.agg [.t (.lst true 9 (Zai l))],.t (.int .i64 x),.t (.int .i64 y),.t (.int .i64 s)] (.t (.bool (ZbU l x y s))):=by
 have hL:=Zbz l
 by_cases hs:1≤s∧s≤16
 ·cases hl:Zbc l with
  | true =>
   have hsol:=Zhl l x y s (ZaU.1 hl) hs
   rw [hl] at hL
   rw [show ZbU l x y s=ZaG l x y s by simp [ZbU,hl,Zae.2 hs]]
   refine AC.go Tryz.func222 Tryz.ntmps222 fun B W hr=>?_
   repeat' (first|refine pa ?_|(refine pb ?_ ?_<;>intro hg)|(refine pz9 ?_;(first|refine Zaa hL ?_|refine Zaa hsol ?_))|refine po ?_|fail)
   exact pfr
  | false =>
   rw [hl] at hL
   rw [show ZbU l x y s=true by simp [ZbU,hl]]
   refine AC.go Tryz.func222 Tryz.ntmps222 fun B W hr=>?_
   repeat' (first|refine pa ?_|(refine pb ?_ ?_<;>intro hg)|(refine pz9 ?_;(first|refine Zaa hL ?_))|refine po ?_|fail)
   exact pfr
 ·rw [show ZbU l x y s=true by simp [ZbU,show inR s 1 16=false by rw [Bool.eq_false_iff,Ne,Zae];exact hs]]
  refine AC.go Tryz.func222 Tryz.ntmps222 fun B W hr=>?_
  repeat' (first|refine pa ?_|(refine pb ?_ ?_<;>intro hg)|refine po ?_|fail)
  all_goals first|(exfalso;omega)|(refine pfin ?_;exact .inl rfl)
theorem Ze6 {l:Lv} {x y s:Int} (hl:Zbc l=true) (hs:1≤s∧s≤16):ZbU l x y s=ZaG l x y s:=by simp [ZbU,hl,Zae.2 hs]
def Zln (n:Int) (b:Bd):Prop:=(0≤b.owner∧b.owner < n)∧((b.kind=0∧(b.aim=1∨b.aim=-1))∨(b.kind ≠ 0∧b.aim=0))∧((b.kind=0∧0≤b.life∧b.life≤3)∨(b.kind ≠ 0∧b.life=0))∧((b.kind=0∧b.life=0∧1≤b.timer∧b.timer≤20)∨(b.kind=0∧b.life ≠ 0∧0≤b.timer∧b.timer≤12)∨(b.kind=1∧1≤b.timer∧b.timer≤25)∨(b.kind=2∧b.owner=0∧b.timer=0))
theorem Zjq {l:Lv} {n:Int} {b:Bd} (hk:0≤b.kind∧b.kind≤2) (hv:ZaG l b.x b.y (Zas b.kind)=false) (j1:-15≤b.vx∧b.vx≤15) (j2:-15≤b.vy∧b.vy≤15):ZbF l n b↔Zln n b :=
 ⟨fun h=>⟨h.owner,h.aim,h.life,h.timer⟩,fun ⟨q1,q2,q3,q4⟩=>⟨hk,q1,hv,j1,j2,q2,q3,q4⟩⟩
theorem ZjJ (xs:List Int) (n:Nat):ZbD xs n=(decide (xs.length=n) && Zbl xs):=rfl
theorem Zhk (xs:List Int) (n:Nat):AC Tryz.prog 88 [.t (ints 3 xs),.t (.int .i64 (n:Nat))] (.t (.bool (ZbD xs n))):=by
 have h1:=ZfP xs
 rw [ZjJ]
 by_cases hl:xs.length=n
 ·rw [decide_eq_true hl,Bool.true_and]
  refine AC.go Tryz.func88 Tryz.ntmps88 fun B W hr=>?_
  repeat' (first|refine pa ?_|(refine pb ?_ ?_<;>intro hg)|(refine pz9 ?_;(first|refine Zaa h1 ?_))|refine po ?_|fail)
  all_goals first|(exfalso;omega)|(refine pfin ?_;exact .inl rfl)
 ·rw [decide_eq_false hl,Bool.false_and]
  refine AC.go Tryz.func88 Tryz.ntmps88 fun B W hr=>?_
  repeat' (first|refine pa ?_|(refine pb ?_ ?_<;>intro hg)|(refine pz9 ?_;(first|refine Zaa h1 ?_))|refine po ?_|fail)
  all_goals first|(exfalso;omega)|(refine pfin ?_;exact .inl rfl)
theorem ZgM (xs:List Int) (n:Nat):AC Tryz.prog 80 [.t (ints 3 xs),.t (.int .i64 (n:Nat))] (.t (.bool (ZbD xs n))):=by
 rw [ZjJ]
 refine AC.go Tryz.func80 Tryz.ntmps80 fun B W hr=>?_
 obtain ⟨us,hus⟩:=hr
 obtain ⟨hl,hw⟩:=Zga (ZaR hus (i:=0) rfl)
 clear hus
 repeat' (first|refine pa ?_|(refine pb ?_ ?_<;>intro hg)|refine po ?_|fail)
 refine aW.loopF rfl (fun q:Nat=>[(5,.t (.int .i64 (q:Nat)))]) [(1,_),(0,_)] (fun q=>[]) [] (fun q=>q≤xs.length∧Zbl (xs.take q)=true) (fun q=>xs.length - q) 0 ⟨Nat.zero_le _,rfl⟩ (by (exact plei)) ?_
 rintro k hI
 obtain ⟨hk,hok⟩:k≤xs.length∧Zbl (xs.take k)=true:=hI
 refine pln ?_
 by_cases hkn:k < xs.length
 ·cases hv:inR (xs.getD k default) 0 15 with
  | true =>
   repeat' (first|refine pa ?_|(refine pb ?_ ?_<;>intro hg)|(refine pz9 ?_;(first|refine Zaa (Zah _ _ _) ?_))|refine po ?_|fail)
   exact ⟨k + 1,⟨hkn,Zjo hkn hok (by simpa [hkn] using hv)⟩,by show xs.length - (k + 1) < xs.length - k;omega,by (exact ple)⟩
  | false =>
   have hno:Zbl xs=false:=ZlU hkn (f:=fun n=>inR n 0 15) (by simpa [hkn] using hv)
   rw [hno,Bool.and_false]
   repeat' (first|refine pa ?_|(refine pb ?_ ?_<;>intro hg)|(refine pz9 ?_;(first|refine Zaa (Zah _ _ _) ?_))|refine po ?_|fail)
   exact pfr
 ·rw [List.take_of_length_le (by omega)] at hok
  rw [hok,Bool.and_true]
  repeat' (first|refine pa ?_|(refine pb ?_ ?_<;>intro hg)|refine po ?_|fail)
  refine pfin ?_
  exact .inl (congrArg T.bool (by rw [Bool.eq_iff_iff];simp only [decide_eq_true_eq];omega))
structure Zic (p:Pr):Prop where
 tracks:Zan p.tracks=true
 base:ZaV p.base
 now:ZaV p.now
 level:p.base.level=p.now.level
 nb:p.base.scores.length=p.tracks.length
 nn:p.now.scores.length=p.tracks.length
 fault:ZcX p.ft p.fp p.fa p.tracks.length=true
 me:0≤p.me∧p.me≤(p.tracks.length:Int) - 1
 delay:0≤p.delay∧p.delay≤5
 ahead:1≤p.ahead∧p.ahead≤8
 seed:0≤p.seed∧p.seed≤65535
 rolls:0≤p.rolls∧p.rolls≤1000000
 again:0≤p.again∧p.again≤1000000
 lead:0≤p.now.tick - p.base.tick∧p.now.tick - p.base.tick≤p.ahead
 used:(p.used.length:Int)=p.now.tick - p.base.tick
 saves:(p.saves.length:Int)=p.now.tick - p.base.tick
 rows:∀ k,k < p.used.length→ZbD (p.used.getD k default) p.tracks.length=true
 ticks:∀ k,k < p.saves.length→(p.saves.getD k default).1=p.base.tick + k
 known:p.base.tick≤Zbe p.tracks
 mine:p.now.tick≤((p.tracks.getD p.me.toNat default).length:Int)
 sums:(p.sums.length:Int)=p.base.tick + 1
open Classical in
noncomputable def Zb9 (p:Pr):Bool:=decide (Zic p)
theorem Zbq {p:Pr}:Zb9 p=true↔Zic p:=by classical exact decide_eq_true_iff
theorem Zbg {p:Pr} (h:¬ Zic p):Zb9 p=false:=by classical exact decide_eq_false h
def TY.flt:TY→Bool
 | .int _ | .str | .bool | .unit=>true
 | .slice _ _=>false
 | .struct f=>f.flt
 | .last a=>a.flt
 | .pair a b=>a.flt && b.flt
def TY.tr:(t:TY)→t.V→List Ab.T
 | .int k,n=>[.int k n]
 | .str,s=>[.str s.data.toList]
 | .bool,b=>[.bool b]
 | .slice e t,xs=>[.lst t.flt e (List.map t.tr xs)]
 | .struct f,x=>f.tr x
 | .unit,_=>[]
 | .last a,x=>a.tr x
 | .pair a b,x=>a.tr x.1++b.tr x.2
def TY.lay (P:Program):TY→Bool
 | .slice e t=>Nat.beq (P.cellsOf e) t.sz && t.lay P
 | .struct f=>f.lay P
 | .last a=>a.lay P
 | .pair a b=>a.lay P && b.lay P
 | _=>true
def TY.arg:(t:TY)→t.V→Ab.V
 | .struct f,x=>.agg ((f.tr x).map .t)
 | .int k,n=>.t (.int k n)
 | .str,s=>.t (.str s.data.toList)
 | .bool,b=>.t (.bool b)
 | .slice e t,xs=>.t (.lst t.flt e (List.map t.tr xs))
 | _,_=>.junk
theorem TY.tr_len:(t:TY)→(x:t.V)→(t.tr x).length=t.sz
 | .int _,_=>rfl
 | .str,_=>rfl
 | .bool,_=>rfl
 | .slice _ _,_=>rfl
 | .struct f,x=>TY.tr_len f x
 | .unit,_=>rfl
 | .last a,x=>TY.tr_len a x
 | .pair a b,x=>by
  show (a.tr x.1++b.tr x.2).length=a.sz + b.sz
  rw [List.length_append,TY.tr_len a,TY.tr_len b]
theorem TY.tr_flat:(t:TY)→t.flt=true→(x:t.V)→∀ c ∈ t.tr x,c.flat=true
 | .int _,_,_=>by intro c hc;cases List.mem_singleton.1 hc;rfl
 | .str,_,_=>by intro c hc;cases List.mem_singleton.1 hc;rfl
 | .bool,_,_=>by intro c hc;cases List.mem_singleton.1 hc;rfl
 | .slice _ _,h,_=>by cases h
 | .struct f,h,x=>TY.tr_flat f h x
 | .unit,_,_=>by intro c hc;cases hc
 | .last a,h,x=>TY.tr_flat a h x
 | .pair a b,h,x=>by
  have h':(a.flt && b.flt)=true:=h
  rw [Bool.and_eq_true] at h'
  intro c hc
  rcases List.mem_append.1 (show c ∈ a.tr x.1++b.tr x.2 from hc) with hc|hc
  ·exact TY.tr_flat a h'.1 x.1 c hc
  ·exact TY.tr_flat b h'.2 x.2 c hc
theorem ZkX {α:Type} {R:List Value→α→Prop} {S:Ab.T→Value→Prop} {f:α→List Ab.T} (hR:∀ cs x,R cs x→Ab.Pw S (f x) cs):∀ {xs:List α} {cs:List Value},Zch R xs cs→Ab.Pw S (xs.map f).flatten cs
 | [],cs,h=>by
  have h':cs=[]:=h
  subst h';exact Ab.Pw.nil
 | x :: xs,cs,⟨c1,c2,e,h1,h2⟩=>by
  subst e
  simpa using (hR _ _ h1).append (ZkX hR h2)
theorem TY.tr_rd {P:Program} {w:World} {N:Nat}:(t:TY)→t.lay P=true→(cs:List Value)→(x:t.V)→t.Rd w N cs x→Ab.Pw (Ab.Rd P w (· < N)) (t.tr x) cs
 | .int _,_,cs,n,h=>by
  obtain ⟨h1,h2⟩:cs=_∧_:=h
  subst h1
  exact Ab.Pw.cons (.int h2) Ab.Pw.nil
 | .str,_,cs,s,h=>by
  obtain ⟨h1,h2⟩:cs=[.string s]∧s.size≤maxLen:=h
  subst h1
  refine Ab.Pw.cons ?_ Ab.Pw.nil
  have:Ab.Rd P w (· < N) (.str s.data.toList) (.string (Ab.bs s.data.toList)):=.str (by rw [Array.length_toList];exact h2)
  rwa [Ab.bs_eta] at this
 | .bool,_,cs,b,h=>by
  have h1:cs=[.bool b]:=h
  subst h1
  exact Ab.Pw.cons .bool Ab.Pw.nil
 | .slice e t,hl,cs,xs,h=>by
  obtain ⟨A,n,c,h1,h2,h3,h4,us,h5,h6⟩:=h
  subst h1 h2
  have hl':(Nat.beq (P.cellsOf e) t.sz && t.lay P)=true:=hl
  rw [Bool.and_eq_true] at hl'
  have hsz:P.cellsOf e=t.sz:=Nat.eq_of_beq_eq_true hl'.1
  have hp:=ZkX (f:=t.tr) (S:=Ab.Rd P w (· < N)) (fun cs x hx=>TY.tr_rd t hl'.2 cs x hx) h6
  refine Ab.Pw.cons ?_ Ab.Pw.nil
  have hlen:(List.map t.tr xs).length=xs.length:=List.length_map _
  show Ab.Rd P w (· < N) (.lst t.flt e (List.map t.tr xs)) (.slice A xs.length c)
  rw [← hlen]
  refine .lst us (by rw [hlen];exact h3) h4 ?_ ?_ hp.1.symm ?_ hp.2
  ·intro y hy
   obtain ⟨z,_,rfl⟩:=List.mem_map.1 hy
   rw [TY.tr_len,hsz]
  ·intro hf y hy
   obtain ⟨l,hl,hy⟩:=List.mem_flatten.1 hy
   obtain ⟨z,_,rfl⟩:=List.mem_map.1 hl
   exact TY.tr_flat t hf z y hy
  ·intro hn
   exact h5.2 (List.length_pos_iff.2 hn)
 | .struct f,hl,cs,x,h=>TY.tr_rd f hl cs x h
 | .unit,_,cs,_,h=>by
  have h1:cs=[]:=h
  subst h1;exact Ab.Pw.nil
 | .last a,hl,cs,x,h=>TY.tr_rd a hl cs x h
 | .pair a b,hl,cs,x,h=>by
  obtain ⟨c1,c2,h1,h2,h3⟩:=h
  subst h1
  have hl':(a.lay P && b.lay P)=true:=hl
  rw [Bool.and_eq_true] at hl'
  exact (TY.tr_rd a hl'.1 c1 x.1 h2).append (TY.tr_rd b hl'.2 c2 x.2 h3)
theorem ZiB {P:Program} {w:World} {N:Nat} {t:TY} {cs:List Value} {x:t.V} (hl:t.lay P=true) (h:t.Rd w N cs x) (hv:(match t with | .unit | .last _ | .pair _ _=>false|_=>true)=true):Ab.C1 P w Ab.noLk Ab.noPl (· < N) (t.arg x) (t.val cs):=by
 have hp:=TY.tr_rd t hl cs x h
 cases t with
 | struct f =>
  refine ⟨cs,rfl,?_,?_⟩
  ·rw [hp.1,List.length_map];rfl
  ·intro k v u hv hu
   rw [List.getElem?_map,Option.map_eq_some_iff] at hv
   obtain ⟨c,hc,rfl⟩:=hv
   exact hp.2 k c u hc hu
 | unit=>cases hv
 | last=>cases hv
 | pair=>cases hv
 | int k =>
  obtain ⟨h1,_⟩:cs=_∧_:=h
  subst h1
  exact hp.2 0 _ _ rfl rfl
 | str =>
  obtain ⟨h1,_⟩:cs=[.string x]∧_:=h
  subst h1
  exact hp.2 0 _ _ rfl rfl
 | bool =>
  have h1:cs=[.bool x]:=h
  subst h1
  exact hp.2 0 _ _ rfl rfl
 | slice e t =>
  obtain ⟨A,n,c,h1,_⟩:=h
  subst h1
  exact hp.2 0 _ _ rfl rfl
theorem ZoH {P:Program} {f:FuncId} {xs:List Ab.V} {w:World} {args:List Value} (h:Ab.AC P f xs (.t (.bool true))) (ha:Ab.Pw (Ab.C1 P w Ab.noLk Ab.noPl (· < w.heap.size)) xs args) :
  Calls P f args.toArray w fun e w'=>e=.returned (.bool true)∧Below w.heap.size w w':=by
 refine (h.2 w (· < w.heap.size) args (fun _ h=>h) ha).mono ?_
 rintro e w' ⟨u,rfl,hb,F,h1,_⟩
 have h2:Ab.Rd P w' _ (.bool true) u:=h1
 cases h2
 exact ⟨rfl,hb⟩
theorem Zeg {ts:TS} {k:Nat} (h:k < ts.length):(ts.take (k + 1)).map trackC=(ts.take k).map trackC++[[.lst true 3 (Zak (ts.getD k default))]]:=by
 rw [List.take_succ_eq_append_getElem h,List.map_append,Zb6 h]
 rfl
end Go.Proofs.YthfaongbpdnlnaaGreat
namespace Go.Proofs.YthfaongbpdnlnaaGreat.Ab
set_option maxHeartbeats 4000000
set_option maxRecDepth 20000
set_option linter.unusedSimpArgs false
set_option linter.unusedVariables false
open Go.RowKit
section
variable {P:Program} {B:Nat→Prop} {W:En} {st:St}
theorem aW.joinF {c:Code} {Q:Exit→St→Prop} {id n:Nat} {α:Type} (hn:st.n=n) (var:α→List (Nat×V)) (fx:List (Nat×V)) (ob:α→List (Nat×Nat×Ob)) (fo:List (Nat×Nat×Ob)) (Post:α→Prop) (x0:α) (hst:Le st ⟨n,var x0++fx,ob x0++fo⟩)
  (h:aW P B W c (fun e st'=>(e=.exit id∧∃ z,Post z∧Le st' ⟨n,var z++fx,ob z++fo⟩)∨Zkc id Q e st') st)
  (K:∀ z,Post z→Q .normal ⟨n,var z++fx,ob z++fo⟩):aW P B W c (Zkc id Q) st:=fun a w hs =>
 wp_mono (h a w hs) fun e a' w' ⟨st',hs',hq⟩=>by
  rcases hq with ⟨rfl,z,hz,hle⟩|hq
  ·refine ⟨_,hs'.weak hle,?_⟩
   show match Nat.beq id id with|true=>Q .normal _|false=>Q (.exit id) _
   rw [Nat.beq_refl]
   exact K z hz
  ·exact ⟨st',hs',hq⟩
end
section
variable {P:Program} {B:Nat→Prop} {W:En} {st:St}
theorem Za5 {K:St→Prop} {Q:Exit→St→Prop} {st:St} (h:K st):ZnW K Q .normal st:=h
theorem Za4 {K:St→Prop} {Q:Exit→St→Prop} {id:Nat} {st:St} (h:Q (.exit id) st):ZnW K Q (.exit id) st:=h
theorem ZaP {Q:Exit→St→Prop} {id:Nat} {st:St} (h:Q .normal st):Zkc id Q .normal st:=h
theorem ZaO {Q:Exit→St→Prop} {id:Nat} {st:St} (h:Q .normal st):Zkc id Q (.exit id) st:=by
 show match Nat.beq id id with|true=>Q .normal _|false=>Q (.exit id) _
 rw [Nat.beq_refl]
 exact h
theorem aW.seqJ {x y:Code} {Q:Exit→St→Prop} {n:Nat} {α:Type} (hn:st.n=n) (var:α→List (Nat×V)) (fx:List (Nat×V)) (ob:α→List (Nat×Nat×Ob)) (fo:List (Nat×Nat×Ob)) (Post:α→Prop) (x0:α) (hst:Le st ⟨n,var x0++fx,ob x0++fo⟩)
  (h:aW P B W x (fun e st'=>(e=.normal∧∃ z,Post z∧Le st' ⟨n,var z++fx,ob z++fo⟩)∨ZnW (aW P B W y Q) Q e st') st)
  (K:∀ z,Post z→aW P B W y Q ⟨n,var z++fx,ob z++fo⟩):aW P B W (.seq x y) Q st:=aW.seq fun a w hs =>
 wp_mono (h a w hs) fun e a' w' ⟨st',hs',hq⟩=>by
  rcases hq with ⟨rfl,z,hz,hle⟩|hq
  ·exact ⟨_,hs'.weak hle,K z hz⟩
  ·exact ⟨st',hs',hq⟩
end
end Go.Proofs.YthfaongbpdnlnaaGreat.Ab
namespace Go.Proofs.YthfaongbpdnlnaaGreat
set_option maxHeartbeats 4000000
set_option maxRecDepth 20000
set_option linter.unusedSimpArgs false
set_option linter.unusedVariables false
open Go.RowKit Ab
theorem T3d1 {X Y:Prop} (h:Y) (r:Hld Y→X:=by intro h;(apply pdq 7;(focus exact pdp);(focus ((refine pt0_ 0 ?_<;>refine pt0_ 1 ?_<;>refine Zbh 2 ?_<;>refine pt0_ 3 ?_<;>refine Zbh 4 ?_<;>refine pt1_ 5 ?_<;>refine pt1_ 6 ?_<;>(refine ZaI ?_;exact ZaJ)))));exact h.out):X:=r ⟨h⟩
theorem Zht (s n:Int):AC Tryz.prog 168 [.t (.int .i64 s),.t (.int .i64 n)] (.tup [.t (.int .i64 (Zaj s n).1),.t (.int .i64 (Zaj s n).2)]):=by
 have hx:=Zb1 s
 by_cases h1:inR s 0 65535=true
 ·by_cases h2:inR n 1 4096=true
  ·have h3:=Zae.1 h1
   have h4:=Zae.1 h2
   rw [show Zaj s n=(Zaz s,Zaz s / 16 % n) from if_pos (by omega)]
   refine AC.go Tryz.func168 Tryz.ntmps168 fun B W hr=>?_
   repeat' (first|refine pa ?_|(refine pb ?_ ?_<;>intro hg)|(refine pz9 ?_;(first|refine Zaa (Zah _ _ _) ?_|refine Zaa (Zfk _) ?_))|refine po ?_|(refine T3d1 ?_)|fail)
   all_goals refine pfin ?_
   exact ⟨.inl rfl,.inl (congrArg (T.int .i64) (Int.tmod_eq_emod_of_nonneg (by omega))),trivial⟩
  ·have h2:inR n 1 4096=false:=by simpa using h2
   rw [show Zaj s n=(0,0) from if_neg fun h=>by rw [Zae.2 ⟨h.2.2.1,h.2.2.2⟩] at h2;cases h2]
   refine AC.go Tryz.func168 Tryz.ntmps168 fun B W hr=>?_
   repeat' (first|refine pa ?_|(refine pb ?_ ?_<;>intro hg)|(refine pz9 ?_;(first|refine Zaa (Zah _ _ _) ?_))|refine po ?_|(refine T3d1 ?_)|fail)
   all_goals refine pfin ?_
   all_goals exact ⟨.inl rfl,.inl rfl,trivial⟩
 ·have h1:inR s 0 65535=false:=by simpa using h1
  rw [show Zaj s n=(0,0) from if_neg fun h=>by rw [Zae.2 ⟨h.1,h.2.1⟩] at h1;cases h1]
  refine AC.go Tryz.func168 Tryz.ntmps168 fun B W hr=>?_
  repeat' (first|refine pa ?_|(refine pb ?_ ?_<;>intro hg)|(refine pz9 ?_;(first|refine Zaa (Zah _ _ _) ?_))|refine po ?_|(refine T3d1 ?_)|fail)
  all_goals refine pfin ?_
  all_goals exact ⟨.inl rfl,.inl rfl,trivial⟩
theorem ZpJ {α:Type} [Inhabited α] {xs:List α} {k:Nat} (hk:k < xs.length):xs.drop k=xs.getD k default :: xs.drop (k + 1):=by
 rw [List.drop_eq_getElem_cons hk];simp [hk]
theorem ZmU {xs:List Int} {k:Nat} (hk:k < xs.length):ZcT (xs.drop k)=if signless (xs.getD k default) < 0 then none else (ZcT (xs.drop (k + 1))).map (Zaf (signless (xs.getD k default))++·):=by
 have h1:=ZpJ hk
 generalize xs.getD k default=x at h1 ⊢
 rw [h1,ZcT]
theorem ZkO (o:Option (List UInt8)) (a b:List UInt8):(o.map (b++·)).map (a++·)=o.map (a++b++·):=by cases o<;>simp
theorem Zr4 {s:List UInt8} {k:Nat} {a b:Int} (hk:k < s.length):csGo (s.drop k) k a b=csGo (s.drop (k + 1)) ((k + 1:Nat):Int) ((a + (s.getD (k:Int).toNat 0).toNat) % 65521) ((b + (s.getD (k:Int).toNat 0).toNat * (((k:Int) + 1) % 65521)) % 65521):=by
 rw [Int.toNat_natCast,Zmx hk,csGo]
 rfl
theorem Zrz {s:List UInt8} {k:Nat} {i a b:Int} (hk:¬ k < s.length):csGo (s.drop k) i a b=(a,b):=by rw [List.drop_of_length_le (by omega),csGo]
theorem Zeu (n:Int):AC Tryz.prog 209 [.t (.int .i64 n)] (.t (.int .i64 (signless n))):=by
 have hin:=Zah n (-549755813888) 549755813887
 have hir:inR n (-549755813888) 549755813887=decide (-549755813888≤n∧n≤549755813887):=by rw [Bool.eq_iff_iff,Zae,decide_eq_true_eq]
 rw [hir] at hin
 by_cases h1:n < -549755813888∨549755813887 < n
 ·rw [show signless n=-1 from if_pos h1]
  rw [decide_eq_false (by omega)] at hin
  refine AC.go Tryz.func209 Tryz.ntmps209 fun B W hr=>?_
  repeat' (first|refine pa ?_|(refine pb ?_ ?_<;>intro hg)|(refine pz9 ?_;(first|refine Zaa hin ?_))|refine po ?_|fail)
  all_goals first
   | (refine pfin ?_;exact .inl rfl)
   | (exfalso;omega)
 ·rw [decide_eq_true (by omega)] at hin
  by_cases h2:0≤n
  ·rw [show signless n=2 * n by rw [signless,if_neg h1,if_pos h2]]
   refine AC.go Tryz.func209 Tryz.ntmps209 fun B W hr=>?_
   repeat' (first|refine pa ?_|(refine pb ?_ ?_<;>intro hg)|(refine pz9 ?_;(first|refine Zaa hin ?_))|refine po ?_|fail)
   all_goals refine pfin ?_
   all_goals exact .inl rfl
  ·rw [show signless n=-2 * n - 1 by rw [signless,if_neg h1,if_neg h2]]
   refine AC.go Tryz.func209 Tryz.ntmps209 fun B W hr=>?_
   repeat' (first|refine pa ?_|(refine pb ?_ ?_<;>intro hg)|(refine pz9 ?_;(first|refine Zaa hin ?_))|refine po ?_|fail)
   all_goals refine pfin ?_
   all_goals exact .inl rfl
def Zt0 (p:Pr) (ack:Int):List Int:=((p.tracks.getD p.me.toNat default).drop ack.toNat).take 40
def ZsW (p:Pr) (ack:Int):Prop:=Zb9 p=true∧ZuL p.tracks p.me ack∧ZhP p.me p.now.tick ack (Zt0 p ack) (Zsn p.tracks) p.base.tick (Zgm p.base) 0 0=true
noncomputable instance (p:Pr) (ack:Int):Decidable (ZsW p ack):=Classical.propDecidable _
def Zc0 (p:Pr):Prop:=∀ s ∈ p.saves,s.2.length≤1048576
def ZtA (p:Pr):List Int:=p.tracks.getD p.me.toNat default
def ZoT (p:Pr) (input:Int):Prop:=Zb9 p=true∧(0≤input∧input≤15)∧((ZtA p).length:Int)=p.now.tick + p.delay∧(ZtA p).length < 400
noncomputable instance (p:Pr) (input:Int):Decidable (ZoT p input):=Classical.propDecidable _
noncomputable def newV (l:Lv) (n:Nat) (seed:Int):Wd:=⟨l,0,seed,List.replicate n 0,(List.range n).map fun k:Nat=>Zfn l (k:Int)⟩
theorem Zok {s:List UInt8} {k:Nat} {v:UInt8}:(Zao s).set k [T.int .u8 (v.toNat:Nat)]=Zao (s.set k v):=by
 unfold Zao
 rw [List.map_set]
theorem Zqe (x y:UInt8):IntKind.u8.wrap (((BitVec.ofInt IntKind.u8.bits ((x.toNat:Nat):Int) ^^^ BitVec.ofInt IntKind.u8.bits ((y.toNat:Nat):Int)).toNat:Nat):Int)=(((x ^^^ y).toNat:Nat):Int):=by
 have h:=(x ^^^ y).toNat_lt
 show IntKind.u8.wrap (((BitVec.ofInt 8 ((x.toNat:Nat):Int) ^^^ BitVec.ofInt 8 ((y.toNat:Nat):Int)).toNat:Nat):Int)=_
 rw [u8_xor,wrap_u8]
 omega
theorem Zpv {a b:List UInt8} {k:Nat} (h:k < b.length) (ha:(k:Int) < a.length):(Zao (ZbL a b k)).set k (setRange [T.int .u8 ((((ZbL a b k).getD k default).toNat:Nat):Int)] 0 [T.int .u8 (IntKind.u8.wrap (((BitVec.ofInt IntKind.u8.bits ((((ZbL a b k).getD k default).toNat:Nat):Int) ^^^ BitVec.ofInt IntKind.u8.bits (((a.getD (k:Int).toNat 0).toNat:Nat):Int)).toNat:Nat):Int))])=Zao (ZbL a b (k + 1)):=by
 rw [Zqe]
 show (Zao (ZbL a b k)).set k [T.int .u8 (((((ZbL a b k).getD k 0) ^^^ (a.getD (k:Int).toNat 0)).toNat:Nat):Int)]=_
 rw [Zok,Zmn h,Int.toNat_natCast,Zll h (by omega)]
theorem zEnd_at {s:List UInt8} {i k:Nat} (h1:i≤k) (h2:k < zEnd s i):(((s.getD (k:Int).toNat 0).toNat:Nat):Int)=0:=by
 rw [Int.toNat_natCast,zEnd_in h1 h2]
 rfl
theorem ZmQ {c:UInt8} (h:c ≠ 0):((c.toNat:Nat):Int) ≠ 0:=fun e=>h (UInt8.toNat_inj.1 (by show c.toNat=0;omega))
theorem zEnd_end {s:List UInt8} {i:Nat} (h:zEnd s i < s.length):(((s.getD ((zEnd s i:Nat):Int).toNat 0).toNat:Nat):Int) ≠ 0:=by
 rw [Int.toNat_natCast]
 exact ZmQ (Znm h)
theorem oEnd_at {s:List UInt8} {i k:Nat} (h1:i≤k) (h2:k < oEnd s i):(((s.getD (k:Int).toNat 0).toNat:Nat):Int) ≠ 0:=by
 rw [Int.toNat_natCast]
 exact ZmQ (oEnd_in h1 h2)
theorem oEnd_end {s:List UInt8} {i:Nat} (h:oEnd s i < s.length):(((s.getD ((oEnd s i:Nat):Int).toNat 0).toNat:Nat):Int)=0:=by
 rw [Int.toNat_natCast,ZmR h]
 rfl
end Go.Proofs.YthfaongbpdnlnaaGreat
namespace Go.Proofs.YthfaongbpdnlnaaGreat.Ab
set_option maxHeartbeats 4000000
set_option maxRecDepth 20000
set_option linter.unusedSimpArgs false
set_option linter.unusedVariables false
open Go.RowKit
theorem cI1 (a:Nat):(a:Int) + 1=((a + 1:Nat):Int):=rfl
theorem cI2 (a:Nat):(a:Int) + 2=((a + 2:Nat):Int):=rfl
theorem cI3 (a:Nat):(a:Int) + 3=((a + 3:Nat):Int):=rfl
theorem cI4 (a:Nat):(a:Int) + 4=((a + 4:Nat):Int):=rfl
theorem cI5 (a:Nat):(a:Int) + 5=((a + 5:Nat):Int):=rfl
theorem cI6 (a:Nat):(a:Int) + 6=((a + 6:Nat):Int):=rfl
theorem cI7 (a:Nat):(a:Int) + 7=((a + 7:Nat):Int):=rfl
theorem cI8 (a:Nat):(a:Int) + 8=((a + 8:Nat):Int):=rfl
theorem pxkn {X Y:Prop} (h:Y) (r:Hld Y→X:=by intro h;(refine Zab (n:=17) ?_;(first|exact OpS.index_at (m:=2) rfl rfl rfl (Tryz.ti rfl) rfl (by decide) rfl rfl (by exact pU11) h.out|exact OpS.index_at (m:=3) rfl rfl rfl (Tryz.ti rfl) rfl (by decide) rfl rfl (by exact pU11) h.out|exact OpS.index_at (m:=4) rfl rfl rfl (Tryz.ti rfl) rfl (by decide) rfl rfl (by exact pU11) h.out|exact OpS.index_at (m:=5) rfl rfl rfl (Tryz.ti rfl) rfl (by decide) rfl rfl (by exact pU11) h.out|exact OpS.index_at (m:=6) rfl rfl rfl (Tryz.ti rfl) rfl (by decide) rfl rfl (by exact pU11) h.out|exact OpS.index_at (m:=7) rfl rfl rfl (Tryz.ti rfl) rfl (by decide) rfl rfl (by exact pU11) h.out|exact OpS.index_at (m:=8) rfl rfl rfl (Tryz.ti rfl) rfl (by decide) rfl rfl (by exact pU11) h.out|exact OpS.index_at (m:=0) rfl rfl rfl (Tryz.ti rfl) rfl (by decide) rfl rfl (by exact pU11) h.out|exact OpS.index_at (m:=1) rfl rfl rfl (Tryz.ti rfl) rfl (by decide) rfl rfl (by exact pU11) h.out|exact OpS.index_at rfl rfl rfl (Tryz.ti rfl) rfl (by decide) rfl (by first|exact cI1 _|exact cI2 _|exact cI3 _|exact cI4 _|exact cI5 _|exact cI6 _|exact cI7 _|exact cI8 _) (Zbv (by omega)) h.out))):X:=r ⟨h⟩
theorem pzkn {X Y:Prop} (h:Y) (r:Hld Y→X:=by intro h;(refine ZcU (n:=17) ?_;(first|exact OpQ.index_at (m:=2) rfl rfl rfl (Tryz.ti rfl) rfl (by decide) rfl rfl (by exact pU11) h.out|exact OpQ.index_at (m:=3) rfl rfl rfl (Tryz.ti rfl) rfl (by decide) rfl rfl (by exact pU11) h.out|exact OpQ.index_at (m:=4) rfl rfl rfl (Tryz.ti rfl) rfl (by decide) rfl rfl (by exact pU11) h.out|exact OpQ.index_at (m:=5) rfl rfl rfl (Tryz.ti rfl) rfl (by decide) rfl rfl (by exact pU11) h.out|exact OpQ.index_at (m:=6) rfl rfl rfl (Tryz.ti rfl) rfl (by decide) rfl rfl (by exact pU11) h.out|exact OpQ.index_at (m:=7) rfl rfl rfl (Tryz.ti rfl) rfl (by decide) rfl rfl (by exact pU11) h.out|exact OpQ.index_at (m:=8) rfl rfl rfl (Tryz.ti rfl) rfl (by decide) rfl rfl (by exact pU11) h.out|exact OpQ.index_at (m:=0) rfl rfl rfl (Tryz.ti rfl) rfl (by decide) rfl rfl (by exact pU11) h.out|exact OpQ.index_at (m:=1) rfl rfl rfl (Tryz.ti rfl) rfl (by decide) rfl rfl (by exact pU11) h.out|exact OpQ.index_at rfl rfl rfl (Tryz.ti rfl) rfl (by decide) rfl (by first|exact cI1 _|exact cI2 _|exact cI3 _|exact cI4 _|exact cI5 _|exact cI6 _|exact cI7 _|exact cI8 _) (Zbv (by omega)) h.out))):X:=r ⟨h⟩
end Go.Proofs.YthfaongbpdnlnaaGreat.Ab
