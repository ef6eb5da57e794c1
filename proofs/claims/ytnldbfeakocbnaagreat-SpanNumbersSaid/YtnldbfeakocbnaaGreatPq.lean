/- What is told of the structs. -/
import Derived.Test.YtnldbfeakocbnaaGreatTb
import Derived.Test.YtnldbfeakocbnaaGreatXO
namespace Go.Y
open Go.RowKit Go.V Go.X Go.Proofs
def ctT (i : Nat) : List Ty := match i with
  | 0 => [.int .u64, .int .u64]
  | 1 => [.int .u64, .int .u64, .int .u64, .int .u64, .bool, .int .u64, .int .u64]
  | _ + 2 => []
theorem Span_of (cl : List (Cell UU)) (h : cl.map (·.t) = [.int .u64, .int .u64]) : ∃ x, Span.of cl = some x := by
  match cl, h with
  | [⟨t0, a0⟩, ⟨t1, a1⟩], h =>
    simp only [List.map_cons, List.map_nil, List.cons.injEq, and_true] at h
    obtain ⟨rfl, rfl⟩ := h
    exact ⟨⟨a0, a1⟩, rfl⟩
theorem Work_of (cl : List (Cell UU)) (h : cl.map (·.t) = [.int .u64, .int .u64, .int .u64, .int .u64, .bool, .int .u64, .int .u64]) : ∃ x, Work.of cl = some x := by
  match cl, h with
  | [⟨t0, a0⟩, ⟨t1, a1⟩, ⟨t2, a2⟩, ⟨t3, a3⟩, ⟨t4, a4⟩, ⟨t5, a5⟩, ⟨t6, a6⟩], h =>
    simp only [List.map_cons, List.map_nil, List.cons.injEq, and_true] at h
    obtain ⟨rfl, rfl, rfl, rfl, rfl, rfl, rfl⟩ := h
    exact ⟨⟨a0, a1, a2, a3, a4, a5, a6⟩, rfl⟩
theorem packT : Packs TT ctT where
  pack := fun i cl h => match i with
    | 0 => Span_of cl h
    | 1 => Work_of cl h
    | _ + 2 => by
      cases cl with
      | nil => exact ⟨(), rfl⟩
      | cons a r => cases h
  size := fun i => match i with
    | 0 => rfl
    | 1 => rfl
    | _ + 2 => rfl
end Go.Y
