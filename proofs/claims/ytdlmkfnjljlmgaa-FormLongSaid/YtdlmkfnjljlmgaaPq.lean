/- What is told of the structs. -/
import Derived.Test.YtdlmkfnjljlmgaaTb
import Derived.Test.YtdlmkfnjljlmgaaXO
namespace Go.Y
open Go.RowKit Go.V Go.X Go.Proofs
def ctT (i : Nat) : List Ty := match i with
  | 0 => [.int .u8, .bool, .int .i64, .int .i64, .bool, .int .i64, .int .i64, .int .i64]
  | 1 => [.int .i64, .int .i64]
  | _ + 2 => []
theorem Ins_of (cl : List (Cell UU)) (h : cl.map (·.t) = [.int .u8, .bool, .int .i64, .int .i64, .bool, .int .i64, .int .i64, .int .i64]) : ∃ x, Ins.of cl = some x := by
  match cl, h with
  | [⟨t0, a0⟩, ⟨t1, a1⟩, ⟨t2, a2⟩, ⟨t3, a3⟩, ⟨t4, a4⟩, ⟨t5, a5⟩, ⟨t6, a6⟩, ⟨t7, a7⟩], h =>
    simp only [List.map_cons, List.map_nil, List.cons.injEq, and_true] at h
    obtain ⟨rfl, rfl, rfl, rfl, rfl, rfl, rfl, rfl⟩ := h
    exact ⟨⟨a0, a1, a2, a3, a4, a5, a6, a7⟩, rfl⟩
theorem Fault_of (cl : List (Cell UU)) (h : cl.map (·.t) = [.int .i64, .int .i64]) : ∃ x, Fault.of cl = some x := by
  match cl, h with
  | [⟨t0, a0⟩, ⟨t1, a1⟩], h =>
    simp only [List.map_cons, List.map_nil, List.cons.injEq, and_true] at h
    obtain ⟨rfl, rfl⟩ := h
    exact ⟨⟨a0, a1⟩, rfl⟩
theorem packT : Packs TT ctT where
  pack := fun i cl h => match i with
    | 0 => Ins_of cl h
    | 1 => Fault_of cl h
    | _ + 2 => by
      cases cl with
      | nil => exact ⟨(), rfl⟩
      | cons a r => cases h
  size := fun i => match i with
    | 0 => rfl
    | 1 => rfl
    | _ + 2 => rfl
end Go.Y
