import Derived.Test.YtliopfopmhhdeaaGreatTb
import Derived.Test.YtliopfopmhhdeaaGreatAB
set_option linter.defProp false
namespace Go.Y
open Go.RowKit Go.V Go.X Go.Proofs
def ctT (i:Nat):List Ty:=match i with
 |0=> [.int .i64,.int .i64,.int .i64,.int .i64,.bool,.list (.int .u8)]
 |1=> [.int .i64,.int .i64,.int .i64,.list (.int .u8)]
 |2=> [.list (.int .u8)]
 |_+3=> []
def ge8 (cl:List (Cell UU)) (h:cl.map (·.t)= [.int .i64,.int .i64,.int .i64,.int .i64,.bool,.list (.int .u8)]): ∃x,Do.of cl=some x:=by
 match cl,h with
 | [⟨t0,a0⟩,⟨t1,a1⟩,⟨t2,a2⟩,⟨t3,a3⟩,⟨t4,a4⟩,⟨t5,a5⟩],h=>
  simp only [U1,List.map_nil,List.cons.injEq,and_true] at h;obtain ⟨rfl,rfl,rfl,rfl,rfl,rfl⟩:=h;exact ⟨⟨a0,a1,a2,a3,a4,a5⟩,rfl⟩
def ki1 (cl:List (Cell UU)) (h:cl.map (·.t)= [.int .i64,.int .i64,.int .i64,.list (.int .u8)]): ∃x,Come.of cl=some x:=by
 match cl,h with
 | [⟨t0,a0⟩,⟨t1,a1⟩,⟨t2,a2⟩,⟨t3,a3⟩],h=>
  simp only [U1,List.map_nil,List.cons.injEq,and_true] at h;obtain ⟨rfl,rfl,rfl,rfl⟩:=h;exact ⟨⟨a0,a1,a2,a3⟩,rfl⟩
def ki3 (cl:List (Cell UU)) (h:cl.map (·.t)= [.list (.int .u8)]): ∃x,Row8.of cl=some x:=by
 match cl,h with
 | [⟨t0,a0⟩],h=>
  simp only [U1,List.map_nil,List.cons.injEq,and_true] at h;subst h;exact ⟨⟨a0⟩,rfl⟩
def vg1 (cl:List (Cell UU)) (h:cl.map (·.t)= []): ∃x,(match cl with| []=>some jw4|_::_=>none)=some x:=by
 cases cl with
 |nil=>exact ⟨_,rfl⟩
 |cons a r=>cases h
def gn4:Packs TT ctT where
 pack:=fun i cl h=>match i with
  |0=>ge8 cl h
  |1=>ki1 cl h
  |2=>ki3 cl h
  |3=>vg1 cl h
  |_+4=>by
   cases cl with
   |nil=>exact ⟨(),rfl⟩
   |cons a r=>cases h
 size:=fun i=>match i with
  |0=>rfl
  |1=>rfl
  |2=>rfl
  |3=>rfl
  |_+4=>rfl
end Go.Y
