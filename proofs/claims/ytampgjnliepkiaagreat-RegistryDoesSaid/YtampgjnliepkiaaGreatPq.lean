import Derived.Test.YtampgjnliepkiaaGreatTb
import Derived.Test.YtampgjnliepkiaaGreatAB
set_option linter.defProp false
namespace Go.Y
open Go.RowKit Go.V Go.X Go.Proofs
def ctT (i:Nat):List Ty:=match i with
 |0=> [.int .i64,.int .u8,.int .i64,.int .i64,.bool,.list (.int .u8)]
 |1=> [.int .i64,.list (.int .u8)]
 |2=> [.list (.user 1),.int .i64,.int .i64,.int .i64,.list (.int .i64),.bool]
 |3=> [.int .i64,.list (.int .u8),.list (.int .u8),.list (.int .u8)]
 |_+4=> []
def kd0 (cl:List (Cell UU)) (h:cl.map (·.t)= [.int .i64,.int .u8,.int .i64,.int .i64,.bool,.list (.int .u8)]): ∃x,Entry.of cl=some x:=by
 match cl,h with
 | [⟨t0,a0⟩,⟨t1,a1⟩,⟨t2,a2⟩,⟨t3,a3⟩,⟨t4,a4⟩,⟨t5,a5⟩],h=>
  simp only [U2,List.map_nil,List.cons.injEq,and_true] at h;obtain ⟨rfl,rfl,rfl,rfl,rfl,rfl⟩:=h;exact ⟨⟨a0,a1,a2,a3,a4,a5⟩,rfl⟩
def kz4 (cl:List (Cell UU)) (h:cl.map (·.t)= [.int .i64,.list (.int .u8)]): ∃x,Held.of cl=some x:=by
 match cl,h with
 | [⟨t0,a0⟩,⟨t1,a1⟩],h=>
  simp only [U2,List.map_nil,List.cons.injEq,and_true] at h;obtain ⟨rfl,rfl⟩:=h;exact ⟨⟨a0,a1⟩,rfl⟩
def qg6 (cl:List (Cell UU)) (h:cl.map (·.t)= [.list (.user 1),.int .i64,.int .i64,.int .i64,.list (.int .i64),.bool]): ∃x,Registry.of cl=some x:=by
 match cl,h with
 | [⟨t0,a0⟩,⟨t1,a1⟩,⟨t2,a2⟩,⟨t3,a3⟩,⟨t4,a4⟩,⟨t5,a5⟩],h=>
  simp only [U2,List.map_nil,List.cons.injEq,and_true] at h;obtain ⟨rfl,rfl,rfl,rfl,rfl,rfl⟩:=h;exact ⟨⟨a0,a1,a2,a3,a4,a5⟩,rfl⟩
def vm4 (cl:List (Cell UU)) (h:cl.map (·.t)= [.int .i64,.list (.int .u8),.list (.int .u8),.list (.int .u8)]): ∃x,Bundle.of cl=some x:=by
 match cl,h with
 | [⟨t0,a0⟩,⟨t1,a1⟩,⟨t2,a2⟩,⟨t3,a3⟩],h=>
  simp only [U2,List.map_nil,List.cons.injEq,and_true] at h;obtain ⟨rfl,rfl,rfl,rfl⟩:=h;exact ⟨⟨a0,a1,a2,a3⟩,rfl⟩
def packT:Packs TT ctT where
 pack:=fun i cl h=>match i with
  |0=>kd0 cl h
  |1=>kz4 cl h
  |2=>qg6 cl h
  |3=>vm4 cl h
  |_+4=>by
   cases cl with
   |nil=>exact ⟨(),rfl⟩
   |cons a r=>cases h
 size:=fun i=>match i with
  |0=>rfl
  |1=>rfl
  |2=>rfl
  |3=>rfl
  |_+4=>rfl
end Go.Y
