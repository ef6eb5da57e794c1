/- What is told of the structs. -/
import Derived.Test.YtjjlcenmifcaeaaTb
import Derived.Test.YtjjlcenmifcaeaaXO
namespace Go.Y
open Go.RowKit Go.V Go.X Go.Proofs
def ctT (i : Nat) : List Ty := match i with
  | _ + 0 => []
theorem Upload_of (cl : List (Cell UU)) (h : cl.map (·.t) = []) : ∃ x, (match cl with | [] => some dUpload | _ :: _ => none) = some x := by
  cases cl with
  | nil => exact ⟨_, rfl⟩
  | cons a r => cases h
theorem packT : Packs TT ctT where
  pack := fun i cl h => match i with
    | 0 => Upload_of cl h
    | _ + 1 => by
      cases cl with
      | nil => exact ⟨(), rfl⟩
      | cons a r => cases h
  size := fun i => match i with
    | 0 => rfl
    | _ + 1 => rfl
end Go.Y
