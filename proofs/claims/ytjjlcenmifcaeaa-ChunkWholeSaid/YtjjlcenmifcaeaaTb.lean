/- The types of the program. -/
import Derived.Test.YtjjlcenmifcaeaaXN
import Derived.Test.YtjjlcenmifcaeaaXU
import Derived.Test.YtjjlcenmifcaeaaX22
import Derived.Test.YtjjlcenmifcaeaaXK
import Derived.Test.YtjjlcenmifcaeaaProg
namespace Go.X
open Go.RowKit Go.V Go.Proofs
def bodyOf (f : Func) : Code := match f.body with | some c => c | none => .skip
structure Upload where
  pieces : List (List Int)
  whole : Int
def dUpload : Upload := ⟨[], (0 : Int)⟩
def fixL {α : Type} (n : Nat) (d : α) (l : List α) : List α := (List.range n).map fun j => l.getD j d
theorem fixL_eq {α : Type} {n : Nat} {d : α} {l : List α} (h : l.length = n) : fixL n d l = l := by
  refine List.ext_getElem (by simp [fixL, h]) fun j h1 h2 => ?_
  simp only [fixL, List.getElem_map, List.getElem_range]
  rw [List.getD_eq_getElem?_getD, List.getElem?_eq_getElem h2]; rfl
def UU : Nat → Type
  | 0 => Upload
  | _ => Unit
def Upload.bl (x : Upload) : List (AV UU) := [.arr (.nl (.int .u8)) 40 (fixL 40 ([] : List Int) x.pieces), .cell ⟨.int .i64, x.whole⟩]
def Upload.rb : List (AV UU) → Option Upload
  | [.arr (.nl (.int .u8)) 40 a0, .cell ⟨.int .i64, a1⟩] => some ⟨a0, a1⟩
  | _ => none
theorem Upload.rbl (cs : List (AV UU)) (x : Upload) (h : Upload.rb cs = some x) (hl : lensU cs) : x.bl = cs := by
  unfold Upload.rb at h
  split at h
  · rename_i a0 a1
    simp only [Option.some.injEq] at h; subst h
    have h0 := fixL_eq (d := (([] : List Int) : List Int)) (hl _ _ _ (by simp only [List.mem_cons, true_or, or_true] : AV.arr (.nl (.int .u8)) 40 a0 ∈ _))
    exact congrArg (fun z => ([.arr (.nl (.int .u8)) 40 z, .cell ⟨.int .i64, a1⟩] : List (AV UU))) h0
  · cases h
def TT : Tab where
  U := UU
  d := fun i => match i with
    | 0 => dUpload
    | _ + 1 => ()
  size := fun i => match i with
    | 0 => 0
    | _ + 1 => 0
  cells := fun i => match i with
    | 0 => fun _ => []
    | _ + 1 => fun _ => []
  len := fun i => match i with
    | 0 => fun _ => rfl
    | _ + 1 => fun _ => rfl
  pack := fun i => match i with
    | 0 => fun cl => match cl with | [] => some dUpload | _ :: _ => none
    | _ + 1 => fun cl => match cl with | [] => some () | _ :: _ => none
  packed := fun i => match i with
    | 0 => fun cl x h => by cases cl with | nil => rfl | cons a r => cases h
    | _ + 1 => fun cl x h => by cases cl with | nil => rfl | cons a r => cases h
  scal := fun i => match i with
    | 0 => true
    | _ + 1 => true
  scals := fun i => match i with
    | 0 => fun _ _ c hc => by cases hc
    | _ + 1 => fun _ _ c hc => by cases hc
  bl := fun i => match i with
    | 0 => Upload.bl
    | _ + 1 => fun _ => []
  rb := fun i => match i with
    | 0 => Upload.rb
    | _ + 1 => fun _ => none
  rbl := fun i => match i with
    | 0 => Upload.rbl
    | _ + 1 => fun _ _ h => by cases h
  bl0 := fun i => match i with
    | 0 => fun _ => rfl
    | _ + 1 => fun _ => rfl
def lookT : List (Nat × Ty) → Nat → Option Ty
  | [], _ => none
  | (j, t) :: r, i => match Nat.beq j i with | true => some t | false => lookT r i
def tyOf (t : TypeId) : Option Ty := lookT [(22, .int .u8), (33, .int .i64), (38, .list (.int .u8)), (42, .bool)] t
def lookLy : List (Nat × Lay) → Nat → Option Lay
  | [], _ => none
  | (j, l) :: r, i => match Nat.beq j i with | true => some l | false => lookLy r i
def layOf (t : TypeId) : Option Lay := lookLy [(47, [some (.nl (.int .u8), 40)]), (48, [some (.nl (.int .u8), 40), none]), (49, [some (.nl (.int .u8), 40), none])] t
def lookDr : List (Nat × (Nat × List TypeId)) → Nat → Option (Nat × List TypeId)
  | [], _ => none
  | (j, l) :: r, i => match Nat.beq j i with | true => some l | false => lookDr r i
def drOf (t : TypeId) : Option (Nat × List TypeId) := lookDr [] t
def lookPm : List (Nat × (TypeId × Nat)) → Nat → Option (TypeId × Nat)
  | [], _ => none
  | (j, l) :: r, i => match Nat.beq j i with | true => some l | false => lookPm r i
def pmOf (t : TypeId) : Option (TypeId × Nat) := lookPm [(24, (49, 0))] t
abbrev BIG : Nat := 1000000000
end Go.X
