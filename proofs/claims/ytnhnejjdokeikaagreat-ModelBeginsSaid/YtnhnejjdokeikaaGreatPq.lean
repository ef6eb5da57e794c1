import Derived.Test.YtnhnejjdokeikaaGreatTb
import Derived.Test.YtnhnejjdokeikaaGreatAB
set_option linter.defProp false
namespace Go.Y
open Go.RowKit Go.V Go.X Go.Proofs
def ctT (i:Nat):List Ty:=match i with
 |0=> [.int .i64,.int .u8,.int .i64,.int .i64,.bool,.list (.int .u8)]
 |1=> [.int .i64,.list (.int .u8)]
 |2=> [.list (.user 1),.int .i64,.int .i64,.int .i64,.list (.int .i64),.bool]
 |3=> [.int .i64,.list (.int .u8),.list (.int .u8),.list (.int .u8)]
 |4=> [.int .u8,.int .i64,.int .i64,.int .i64,.int .i64,.int .u8,.int .i64,.int .i64,.bool,.list (.int .u8),.int .i64,.int .u64,.list (.int .u8)]
 |5=> [.int .u8,.bool,.int .i64,.int .i64,.bool,.int .i64,.int .i64,.int .i64]
 |6=> [.int .i64,.int .i64]
 |7=> [.int .i64,.int .i64,.int .u64,.int .i64]
 |8=> [.int .u8,.int .u64]
 |_+9=> []
def vy5 (cl:List (Cell UU)) (h:cl.map (·.t)= [.int .i64,.int .u8,.int .i64,.int .i64,.bool,.list (.int .u8)]): ∃x,Entry.of cl=some x:=by
 match cl,h with
 | [⟨t0,a0⟩,⟨t1,a1⟩,⟨t2,a2⟩,⟨t3,a3⟩,⟨t4,a4⟩,⟨t5,a5⟩],h=>
  simp only [W8,K5,List.cons.injEq,and_true] at h;obtain ⟨rfl,rfl,rfl,rfl,rfl,rfl⟩:=h;exact ⟨⟨a0,a1,a2,a3,a4,a5⟩,rfl⟩
def kz5 (cl:List (Cell UU)) (h:cl.map (·.t)= [.int .i64,.list (.int .u8)]): ∃x,Held.of cl=some x:=by
 match cl,h with
 | [⟨t0,a0⟩,⟨t1,a1⟩],h=>
  simp only [W8,K5,List.cons.injEq,and_true] at h;obtain ⟨rfl,rfl⟩:=h;exact ⟨⟨a0,a1⟩,rfl⟩
def qf3 (cl:List (Cell UU)) (h:cl.map (·.t)= [.list (.user 1),.int .i64,.int .i64,.int .i64,.list (.int .i64),.bool]): ∃x,Registry.of cl=some x:=by
 match cl,h with
 | [⟨t0,a0⟩,⟨t1,a1⟩,⟨t2,a2⟩,⟨t3,a3⟩,⟨t4,a4⟩,⟨t5,a5⟩],h=>
  simp only [W8,K5,List.cons.injEq,and_true] at h;obtain ⟨rfl,rfl,rfl,rfl,rfl,rfl⟩:=h;exact ⟨⟨a0,a1,a2,a3,a4,a5⟩,rfl⟩
def vk2 (cl:List (Cell UU)) (h:cl.map (·.t)= [.int .i64,.list (.int .u8),.list (.int .u8),.list (.int .u8)]): ∃x,Bundle.of cl=some x:=by
 match cl,h with
 | [⟨t0,a0⟩,⟨t1,a1⟩,⟨t2,a2⟩,⟨t3,a3⟩],h=>
  simp only [W8,K5,List.cons.injEq,and_true] at h;obtain ⟨rfl,rfl,rfl,rfl⟩:=h;exact ⟨⟨a0,a1,a2,a3⟩,rfl⟩
def kz7 (cl:List (Cell UU)) (h:cl.map (·.t)= [.int .u8,.int .i64,.int .i64,.int .i64,.int .i64,.int .u8,.int .i64,.int .i64,.bool,.list (.int .u8),.int .i64,.int .u64,.list (.int .u8)]): ∃x,Tale.of cl=some x:=by
 match cl,h with
 | [⟨t0,a0⟩,⟨t1,a1⟩,⟨t2,a2⟩,⟨t3,a3⟩,⟨t4,a4⟩,⟨t5,a5⟩,⟨t6,a6⟩,⟨t7,a7⟩,⟨t8,a8⟩,⟨t9,a9⟩,⟨t10,a10⟩,⟨t11,a11⟩,⟨t12,a12⟩],h=>
  simp only [W8,K5,List.cons.injEq,and_true] at h;obtain ⟨rfl,rfl,rfl,rfl,rfl,rfl,rfl,rfl,rfl,rfl,rfl,rfl,rfl⟩:=h;exact ⟨⟨a0,a1,a2,a3,a4,a5,a6,a7,a8,a9,a10,a11,a12⟩,rfl⟩
def wa3 (cl:List (Cell UU)) (h:cl.map (·.t)= [.int .u8,.bool,.int .i64,.int .i64,.bool,.int .i64,.int .i64,.int .i64]): ∃x,Ins.of cl=some x:=by
 match cl,h with
 | [⟨t0,a0⟩,⟨t1,a1⟩,⟨t2,a2⟩,⟨t3,a3⟩,⟨t4,a4⟩,⟨t5,a5⟩,⟨t6,a6⟩,⟨t7,a7⟩],h=>
  simp only [W8,K5,List.cons.injEq,and_true] at h;obtain ⟨rfl,rfl,rfl,rfl,rfl,rfl,rfl,rfl⟩:=h;exact ⟨⟨a0,a1,a2,a3,a4,a5,a6,a7⟩,rfl⟩
def vy6 (cl:List (Cell UU)) (h:cl.map (·.t)= [.int .i64,.int .i64]): ∃x,Fault.of cl=some x:=by
 match cl,h with
 | [⟨t0,a0⟩,⟨t1,a1⟩],h=>
  simp only [W8,K5,List.cons.injEq,and_true] at h;obtain ⟨rfl,rfl⟩:=h;exact ⟨⟨a0,a1⟩,rfl⟩
def qq9 (cl:List (Cell UU)) (h:cl.map (·.t)= [.int .i64,.int .i64,.int .u64,.int .i64]): ∃x,Outcome.of cl=some x:=by
 match cl,h with
 | [⟨t0,a0⟩,⟨t1,a1⟩,⟨t2,a2⟩,⟨t3,a3⟩],h=>
  simp only [W8,K5,List.cons.injEq,and_true] at h;obtain ⟨rfl,rfl,rfl,rfl⟩:=h;exact ⟨⟨a0,a1,a2,a3⟩,rfl⟩
def wa4 (cl:List (Cell UU)) (h:cl.map (·.t)= [.int .u8,.int .u64]): ∃x,Val.of cl=some x:=by
 match cl,h with
 | [⟨t0,a0⟩,⟨t1,a1⟩],h=>
  simp only [W8,K5,List.cons.injEq,and_true] at h;obtain ⟨rfl,rfl⟩:=h;exact ⟨⟨a0,a1⟩,rfl⟩
def packT:Packs TT ctT where
 pack:=fun i cl h=>match i with
  |0=>vy5 cl h
  |1=>kz5 cl h
  |2=>qf3 cl h
  |3=>vk2 cl h
  |4=>kz7 cl h
  |5=>wa3 cl h
  |6=>vy6 cl h
  |7=>qq9 cl h
  |8=>wa4 cl h
  |_+9=>by
   cases cl with
   |nil=>exact ⟨(),rfl⟩
   |cons a r=>cases h
 size:=fun i=>match i with
  |0=>rfl
  |1=>rfl
  |2=>rfl
  |3=>rfl
  |4=>rfl
  |5=>rfl
  |6=>rfl
  |7=>rfl
  |8=>rfl
  |_+9=>rfl
end Go.Y
