import Derived.Test.YtbanjakljpjknaaGreatTb
import Derived.Test.YtbanjakljpjknaaGreatAB
set_option linter.defProp false
namespace Go.Y
open Go.RowKit Go.V Go.X Go.Proofs
def ctT (i:Nat):List Ty:=match i with
 |0=> [.int .u64,.int .u64]
 |1=> [.int .u8,.int .u64,.int .u64]
 |2=> [.int .u8,.bool,.int .i64,.int .i64,.bool,.int .i64,.int .i64,.int .i64]
 |3=> [.int .i64,.int .i64]
 |4=> [.bool,.list (.user 1),.list (.bool),.int .i64]
 |5=> [.int .u8,.int .u64]
 |6=> [.int .u64,.int .u64,.int .u64,.int .u64,.bool,.int .u64,.int .u64]
 |7=> [.int .u8,.int .u8,.bool,.int .i64,.int .i64,.int .i64,.int .u64,.int .i64,.int .i64]
 |8=> [.int .i64,.int .i64,.int .u64,.int .i64]
 |_+9=> []
def gu7 (cl:List (Cell UU)) (h:cl.map (·.t)= [.int .u64,.int .u64]): ∃x,Span.of cl=some x:=by
 match cl,h with
 | [⟨t0,a0⟩,⟨t1,a1⟩],h=>
  simp only [U0,J7,List.cons.injEq,and_true] at h;obtain ⟨rfl,rfl⟩:=h;exact ⟨⟨a0,a1⟩,rfl⟩
def kq3 (cl:List (Cell UU)) (h:cl.map (·.t)= [.int .u8,.int .u64,.int .u64]): ∃x,Known.of cl=some x:=by
 match cl,h with
 | [⟨t0,a0⟩,⟨t1,a1⟩,⟨t2,a2⟩],h=>
  simp only [U0,J7,List.cons.injEq,and_true] at h;obtain ⟨rfl,rfl,rfl⟩:=h;exact ⟨⟨a0,a1,a2⟩,rfl⟩
def ug1 (cl:List (Cell UU)) (h:cl.map (·.t)= [.int .u8,.bool,.int .i64,.int .i64,.bool,.int .i64,.int .i64,.int .i64]): ∃x,Ins.of cl=some x:=by
 match cl,h with
 | [⟨t0,a0⟩,⟨t1,a1⟩,⟨t2,a2⟩,⟨t3,a3⟩,⟨t4,a4⟩,⟨t5,a5⟩,⟨t6,a6⟩,⟨t7,a7⟩],h=>
  simp only [U0,J7,List.cons.injEq,and_true] at h;obtain ⟨rfl,rfl,rfl,rfl,rfl,rfl,rfl,rfl⟩:=h;exact ⟨⟨a0,a1,a2,a3,a4,a5,a6,a7⟩,rfl⟩
def kq2 (cl:List (Cell UU)) (h:cl.map (·.t)= [.int .i64,.int .i64]): ∃x,Fault.of cl=some x:=by
 match cl,h with
 | [⟨t0,a0⟩,⟨t1,a1⟩],h=>
  simp only [U0,J7,List.cons.injEq,and_true] at h;obtain ⟨rfl,rfl⟩:=h;exact ⟨⟨a0,a1⟩,rfl⟩
def kq4 (cl:List (Cell UU)) (h:cl.map (·.t)= [.bool,.list (.user 1),.list (.bool),.int .i64]): ∃x,Place.of cl=some x:=by
 match cl,h with
 | [⟨t0,a0⟩,⟨t1,a1⟩,⟨t2,a2⟩,⟨t3,a3⟩],h=>
  simp only [U0,J7,List.cons.injEq,and_true] at h;obtain ⟨rfl,rfl,rfl,rfl⟩:=h;exact ⟨⟨a0,a1,a2,a3⟩,rfl⟩
def gu6 (cl:List (Cell UU)) (h:cl.map (·.t)= [.int .u8,.int .u64]): ∃x,RVal.of cl=some x:=by
 match cl,h with
 | [⟨t0,a0⟩,⟨t1,a1⟩],h=>
  simp only [U0,J7,List.cons.injEq,and_true] at h;obtain ⟨rfl,rfl⟩:=h;exact ⟨⟨a0,a1⟩,rfl⟩
def gu8 (cl:List (Cell UU)) (h:cl.map (·.t)= [.int .u64,.int .u64,.int .u64,.int .u64,.bool,.int .u64,.int .u64]): ∃x,Work.of cl=some x:=by
 match cl,h with
 | [⟨t0,a0⟩,⟨t1,a1⟩,⟨t2,a2⟩,⟨t3,a3⟩,⟨t4,a4⟩,⟨t5,a5⟩,⟨t6,a6⟩],h=>
  simp only [U0,J7,List.cons.injEq,and_true] at h;obtain ⟨rfl,rfl,rfl,rfl,rfl,rfl,rfl⟩:=h;exact ⟨⟨a0,a1,a2,a3,a4,a5,a6⟩,rfl⟩
def gu4 (cl:List (Cell UU)) (h:cl.map (·.t)= [.int .u8,.int .u8,.bool,.int .i64,.int .i64,.int .i64,.int .u64,.int .i64,.int .i64]): ∃x,Flat.of cl=some x:=by
 match cl,h with
 | [⟨t0,a0⟩,⟨t1,a1⟩,⟨t2,a2⟩,⟨t3,a3⟩,⟨t4,a4⟩,⟨t5,a5⟩,⟨t6,a6⟩,⟨t7,a7⟩,⟨t8,a8⟩],h=>
  simp only [U0,J7,List.cons.injEq,and_true] at h;obtain ⟨rfl,rfl,rfl,rfl,rfl,rfl,rfl,rfl,rfl⟩:=h;exact ⟨⟨a0,a1,a2,a3,a4,a5,a6,a7,a8⟩,rfl⟩
def ve3 (cl:List (Cell UU)) (h:cl.map (·.t)= [.int .i64,.int .i64,.int .u64,.int .i64]): ∃x,Outcome.of cl=some x:=by
 match cl,h with
 | [⟨t0,a0⟩,⟨t1,a1⟩,⟨t2,a2⟩,⟨t3,a3⟩],h=>
  simp only [U0,J7,List.cons.injEq,and_true] at h;obtain ⟨rfl,rfl,rfl,rfl⟩:=h;exact ⟨⟨a0,a1,a2,a3⟩,rfl⟩
def packT:Packs TT ctT where
 pack:=fun i cl h=>match i with
  |0=>gu7 cl h
  |1=>kq3 cl h
  |2=>ug1 cl h
  |3=>kq2 cl h
  |4=>kq4 cl h
  |5=>gu6 cl h
  |6=>gu8 cl h
  |7=>gu4 cl h
  |8=>ve3 cl h
  |_+9=>by
   cases cl with
   |nil=>exact ⟨(),rfl⟩
   |cons a r=>cases h
 size:=fun i=>match i with
  |0=>rfl
  |1=>rfl
  |2=>rfl
  |3=>rfl
  |4=>rfl
  |5=>rfl
  |6=>rfl
  |7=>rfl
  |8=>rfl
  |_+9=>rfl
end Go.Y
