/- What is told of the structs. -/
import Derived.Test.YtbklhipicfimeaaTb
import Derived.Test.YtbklhipicfimeaaXO
namespace Go.Y
open Go.RowKit Go.V Go.X Go.Proofs
def ctT (i : Nat) : List Ty := match i with
  | 0 => [.int .i64, .int .i64, .int .i64, .int .i64]
  | _ + 1 => []
theorem Do_of (cl : List (Cell UU)) (h : cl.map (·.t) = [.int .i64, .int .i64, .int .i64, .int .i64]) : ∃ x, Do.of cl = some x := by
  match cl, h with
  | [⟨t0, a0⟩, ⟨t1, a1⟩, ⟨t2, a2⟩, ⟨t3, a3⟩], h =>
    simp only [List.map_cons, List.map_nil, List.cons.injEq, and_true] at h
    obtain ⟨rfl, rfl, rfl, rfl⟩ := h
    exact ⟨⟨a0, a1, a2, a3⟩, rfl⟩
theorem packT : Packs TT ctT where
  pack := fun i cl h => match i with
    | 0 => Do_of cl h
    | _ + 1 => by
      cases cl with
      | nil => exact ⟨(), rfl⟩
      | cons a r => cases h
  size := fun i => match i with
    | 0 => rfl
    | _ + 1 => rfl
end Go.Y
