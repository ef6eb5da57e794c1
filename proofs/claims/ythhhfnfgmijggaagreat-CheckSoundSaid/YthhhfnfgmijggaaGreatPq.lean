import Derived.Test.YthhhfnfgmijggaaGreatTb
import Derived.Test.YthhhfnfgmijggaaGreatAB
set_option linter.defProp false
namespace Go.Y
open Go.RowKit Go.V Go.X Go.Proofs
def ctT (i:Nat):List Ty:=match i with
 |0=> [.int .u64,.int .u64]
 |1=> [.int .u8,.int .u64,.int .u64]
 |2=> [.int .u8,.bool,.int .i64,.int .i64,.bool,.int .i64,.int .i64,.int .i64]
 |3=> [.int .i64,.int .i64]
 |4=> [.bool,.list (.user 1),.list (.bool),.int .i64]
 |5=> [.int .u8,.int .u64]
 |6=> [.int .u64,.int .u64,.int .u64,.int .u64,.bool,.int .u64,.int .u64]
 |7=> [.int .i64,.int .i64,.int .u64,.int .i64]
 |8=> [.int .u8,.int .u64]
 |_+9=> []
def wd6 (cl:List (Cell UU)) (h:cl.map (·.t)= [.int .u64,.int .u64]): ∃x,Span.of cl=some x:=by
 match cl,h with
 | [⟨t0,a0⟩,⟨t1,a1⟩],h=>
  simp only [U3,K7,List.cons.injEq,and_true] at h;obtain ⟨rfl,rfl⟩:=h;exact ⟨⟨a0,a1⟩,rfl⟩
def kt3 (cl:List (Cell UU)) (h:cl.map (·.t)= [.int .u8,.int .u64,.int .u64]): ∃x,Known.of cl=some x:=by
 match cl,h with
 | [⟨t0,a0⟩,⟨t1,a1⟩,⟨t2,a2⟩],h=>
  simp only [U3,K7,List.cons.injEq,and_true] at h;obtain ⟨rfl,rfl,rfl⟩:=h;exact ⟨⟨a0,a1,a2⟩,rfl⟩
def uf7 (cl:List (Cell UU)) (h:cl.map (·.t)= [.int .u8,.bool,.int .i64,.int .i64,.bool,.int .i64,.int .i64,.int .i64]): ∃x,Ins.of cl=some x:=by
 match cl,h with
 | [⟨t0,a0⟩,⟨t1,a1⟩,⟨t2,a2⟩,⟨t3,a3⟩,⟨t4,a4⟩,⟨t5,a5⟩,⟨t6,a6⟩,⟨t7,a7⟩],h=>
  simp only [U3,K7,List.cons.injEq,and_true] at h;obtain ⟨rfl,rfl,rfl,rfl,rfl,rfl,rfl,rfl⟩:=h;exact ⟨⟨a0,a1,a2,a3,a4,a5,a6,a7⟩,rfl⟩
def kt2 (cl:List (Cell UU)) (h:cl.map (·.t)= [.int .i64,.int .i64]): ∃x,Fault.of cl=some x:=by
 match cl,h with
 | [⟨t0,a0⟩,⟨t1,a1⟩],h=>
  simp only [U3,K7,List.cons.injEq,and_true] at h;obtain ⟨rfl,rfl⟩:=h;exact ⟨⟨a0,a1⟩,rfl⟩
def kt5 (cl:List (Cell UU)) (h:cl.map (·.t)= [.bool,.list (.user 1),.list (.bool),.int .i64]): ∃x,Place.of cl=some x:=by
 match cl,h with
 | [⟨t0,a0⟩,⟨t1,a1⟩,⟨t2,a2⟩,⟨t3,a3⟩],h=>
  simp only [U3,K7,List.cons.injEq,and_true] at h;obtain ⟨rfl,rfl,rfl,rfl⟩:=h;exact ⟨⟨a0,a1,a2,a3⟩,rfl⟩
def wd5 (cl:List (Cell UU)) (h:cl.map (·.t)= [.int .u8,.int .u64]): ∃x,RVal.of cl=some x:=by
 match cl,h with
 | [⟨t0,a0⟩,⟨t1,a1⟩],h=>
  simp only [U3,K7,List.cons.injEq,and_true] at h;obtain ⟨rfl,rfl⟩:=h;exact ⟨⟨a0,a1⟩,rfl⟩
def wd7 (cl:List (Cell UU)) (h:cl.map (·.t)= [.int .u64,.int .u64,.int .u64,.int .u64,.bool,.int .u64,.int .u64]): ∃x,Work.of cl=some x:=by
 match cl,h with
 | [⟨t0,a0⟩,⟨t1,a1⟩,⟨t2,a2⟩,⟨t3,a3⟩,⟨t4,a4⟩,⟨t5,a5⟩,⟨t6,a6⟩],h=>
  simp only [U3,K7,List.cons.injEq,and_true] at h;obtain ⟨rfl,rfl,rfl,rfl,rfl,rfl,rfl⟩:=h;exact ⟨⟨a0,a1,a2,a3,a4,a5,a6⟩,rfl⟩
def ve2 (cl:List (Cell UU)) (h:cl.map (·.t)= [.int .i64,.int .i64,.int .u64,.int .i64]): ∃x,Outcome.of cl=some x:=by
 match cl,h with
 | [⟨t0,a0⟩,⟨t1,a1⟩,⟨t2,a2⟩,⟨t3,a3⟩],h=>
  simp only [U3,K7,List.cons.injEq,and_true] at h;obtain ⟨rfl,rfl,rfl,rfl⟩:=h;exact ⟨⟨a0,a1,a2,a3⟩,rfl⟩
def uf8 (cl:List (Cell UU)) (h:cl.map (·.t)= [.int .u8,.int .u64]): ∃x,Val.of cl=some x:=by
 match cl,h with
 | [⟨t0,a0⟩,⟨t1,a1⟩],h=>
  simp only [U3,K7,List.cons.injEq,and_true] at h;obtain ⟨rfl,rfl⟩:=h;exact ⟨⟨a0,a1⟩,rfl⟩
def packT:Packs TT ctT where
 pack:=fun i cl h=>match i with
  |0=>wd6 cl h
  |1=>kt3 cl h
  |2=>uf7 cl h
  |3=>kt2 cl h
  |4=>kt5 cl h
  |5=>wd5 cl h
  |6=>wd7 cl h
  |7=>ve2 cl h
  |8=>uf8 cl h
  |_+9=>by
   cases cl with
   |nil=>exact ⟨(),rfl⟩
   |cons a r=>cases h
 size:=fun i=>match i with
  |0=>rfl
  |1=>rfl
  |2=>rfl
  |3=>rfl
  |4=>rfl
  |5=>rfl
  |6=>rfl
  |7=>rfl
  |8=>rfl
  |_+9=>rfl
def goodBytes {l:List Int} (h:Go.X.Good TT (.list (.int .u8)) l): ∀x∈l,0<=x/\x<=255:=fun x hx=>by
 have hc:Go.X.GoodV TT (.list (.int .u8)) l:=h ⟨.list (.int .u8),l⟩ (Q6.2 rfl);cases hc with
 |list _ _ _ h2=>exact Go.X.GoodV.intB (T:=TT) (k:=.u8) (h2 x hx ⟨.int .u8,x⟩ (Q6.2 rfl))
end Go.Y
