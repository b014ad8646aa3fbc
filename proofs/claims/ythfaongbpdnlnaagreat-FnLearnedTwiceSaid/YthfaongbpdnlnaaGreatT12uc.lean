/- What is proved: contracts on inputs, tracks and packets that are valid, in the calculus of abstract states, program and reference alike.
   Conditions: none. -/
import Derived.Test.YthfaongbpdnlnaaGreatAbsVc
namespace Go.Proofs.YthfaongbpdnlnaaGreat
set_option maxHeartbeats 4000000
set_option maxRecDepth 20000
set_option linter.unusedSimpArgs false
set_option linter.unusedVariables false
open Go.RowKit Ab
theorem ZtC (fr tk fs stk sm tm ec:Int) (ins acks:List Int):AC Tryz.prog 130 [.agg [.t (.int .i64 fr),.t (.int .i64 tk),.t (.int .i64 fs),.t (ints 3 ins),.t (ints 3 acks),.t (.int .i64 stk),.t (.int .i64 sm),.t (.int .i64 tm),.t (.int .i64 ec)]] (.t (.bool (ZhP fr tk fs ins acks stk sm tm ec))):=by
  have hi:=ZfP ins
  refine AC.go Tryz.func130 Tryz.ntmps130 fun B W hr=>?_
  obtain ⟨us,hus⟩:=hr
  have hl:=(Zga (ZjG hus (i:=0) (k:=4) rfl rfl)).1
  have hl2:=(Zga (ZjG hus (i:=0) (k:=3) rfl rfl)).1
  clear hus
  repeat' (first|refine pa ?_|(refine pb ?_ ?_<;>intro hg)|(refine pz9 ?_;(first|refine Zaa hi ?_|refine Zaa (Zaq _ _ _) ?_))|refine po ?_|fail)
  all_goals first
    | (have hL:inR acks.length 1 4=false:=Zb3 (by omega)
       (refine pfin ?_;refine .inl (congrArg T.bool ?_);(try simp only [Bool.not_eq_true',Bool.not_eq_false'] at *);(first|(simp only [ZhP, *,Bool.and_true,Bool.and_false,Bool.false_and,Bool.true_and,Bool.and_self,Bool.not_true,Bool.not_false];done)|(simp [ZhP, *];done))))
    | skip
  have hL:inR acks.length 1 4=true:=Zae.2 (by omega)
  refine aW.loopF rfl (fun q:Nat=>[(18,.t (.int .i64 q))]) [(17,_),(16,_),(1,_)] (fun q=>[]) [(1,_,_)] (fun q=>q≤acks.length∧ZsB (acks.take q)=true) (fun q=>acks.length - q) 0 ⟨Nat.zero_le _,rfl⟩ (by (exact plei)) ?_
  rintro k ⟨hk,hok⟩
  refine pln ?_
  repeat' (first|refine pa ?_|(refine pb ?_ ?_<;>intro hg)|(refine pz9 ?_;(first|refine Zaa hi ?_|refine Zaa (Zaq _ _ _) ?_))|refine po ?_|fail)
  all_goals first
    | (exact ⟨k + 1,⟨by omega,Zjm (by omega) hok (by simpa using hg)⟩,by omega,by (exact ple)⟩)
    | (have ha:ZsB acks=false:=ZlS (k:=k) (by omega) (by simpa using hg)
       (refine pfin ?_;refine .inl (congrArg T.bool ?_);(try simp only [Bool.not_eq_true',Bool.not_eq_false'] at *);(first|(simp only [ZhP, *,Bool.and_true,Bool.and_false,Bool.false_and,Bool.true_and,Bool.and_self,Bool.not_true,Bool.not_false];done)|(simp [ZhP, *];done))))
    | (have ha:ZsB acks=true:=ZlT (by omega) hok
       first
         | (have h40:decide (ins.length≤40)=true:=decide_eq_true (by omega)
            (refine pfin ?_;refine .inl (congrArg T.bool ?_);(try simp only [Bool.not_eq_true',Bool.not_eq_false'] at *);(first|(simp only [ZhP, *,Bool.and_true,Bool.and_false,Bool.false_and,Bool.true_and,Bool.and_self,Bool.not_true,Bool.not_false];done)|(simp [ZhP, *];done))))
         | (have h40:decide (ins.length≤40)=false:=decide_eq_false (by omega)
            (refine pfin ?_;refine .inl (congrArg T.bool ?_);(try simp only [Bool.not_eq_true',Bool.not_eq_false'] at *);(first|(simp only [ZhP, *,Bool.and_true,Bool.and_false,Bool.false_and,Bool.true_and,Bool.and_self,Bool.not_true,Bool.not_false];done)|(simp [ZhP, *];done))))
         | (refine pfin ?_;refine .inl (congrArg T.bool ?_);(try simp only [Bool.not_eq_true',Bool.not_eq_false'] at *);(first|(simp only [ZhP, *,Bool.and_true,Bool.and_false,Bool.false_and,Bool.true_and,Bool.and_self,Bool.not_true,Bool.not_false];done)|(simp [ZhP, *];done))))
end Go.Proofs.YthfaongbpdnlnaaGreat
