/- The types of the program. -/
import Derived.Test.YtbklhipicfimeaaX22
import Derived.Test.YtbklhipicfimeaaProg
namespace Go.X
open Go.RowKit Go.V Go.Proofs
def bodyOf (f : Func) : Code := match f.body with | some c => c | none => .skip
structure Do where
  Op : Int
  Which : Int
  Size : Int
  At : Int
def dDo : Do := ⟨(0 : Int), (0 : Int), (0 : Int), (0 : Int)⟩
def UU : Nat → Type
  | 0 => Do
  | _ => Unit
def Do.cs (x : Do) : List (Cell UU) := [⟨.int .i64, x.Op⟩, ⟨.int .i64, x.Which⟩, ⟨.int .i64, x.Size⟩, ⟨.int .i64, x.At⟩]
def Do.of : List (Cell UU) → Option Do
  | [c0, c1, c2, c3] => match c0.as (.int .i64), c1.as (.int .i64), c2.as (.int .i64), c3.as (.int .i64) with
    | some a0, some a1, some a2, some a3 => some ⟨a0, a1, a2, a3⟩
    | _, _, _, _ => none
  | _ => none
theorem Do.of_cs (cs : List (Cell UU)) (x : Do) (h : Do.of cs = some x) : x.cs = cs := by
  unfold Do.of at h
  split at h
  · split at h
    · rename_i h0 h1 h2 h3
      simp only [Option.some.injEq] at h; subst h
      rw [Do.cs, Cell.as_eq h0, Cell.as_eq h1, Cell.as_eq h2, Cell.as_eq h3]
    · cases h
  · cases h
def TT : Tab where
  U := UU
  d := fun i => match i with
    | 0 => dDo
    | _ + 1 => ()
  size := fun i => match i with
    | 0 => 4
    | _ + 1 => 0
  cells := fun i => match i with
    | 0 => Do.cs
    | _ + 1 => fun _ => []
  len := fun i => match i with
    | 0 => fun _ => rfl
    | _ + 1 => fun _ => rfl
  pack := fun i => match i with
    | 0 => Do.of
    | _ + 1 => fun cl => match cl with | [] => some () | _ :: _ => none
  packed := fun i => match i with
    | 0 => Do.of_cs
    | _ + 1 => fun cl x h => by cases cl with | nil => rfl | cons a r => cases h
  scal := fun i => match i with
    | 0 => true
    | _ + 1 => true
  scals := fun i => match i with
    | 0 => fun x _ c hc => by simp only [Do.cs, List.mem_cons, List.not_mem_nil, or_false] at hc; rcases hc with rfl | rfl | rfl | rfl <;> rfl
    | _ + 1 => fun _ _ c hc => by cases hc
def lookT : List (Nat × Ty) → Nat → Option Ty
  | [], _ => none
  | (j, t) :: r, i => match Nat.beq j i with | true => some t | false => lookT r i
def tyOf (t : TypeId) : Option Ty := lookT [(22, .bool), (33, .user 0), (34, .list (.bool)), (39, .int .i64), (40, .int .i64)] t
def lookLy : List (Nat × Lay) → Nat → Option Lay
  | [], _ => none
  | (j, l) :: r, i => match Nat.beq j i with | true => some l | false => lookLy r i
def layOf (t : TypeId) : Option Lay := lookLy [(46, [some (.bool, 512)]), (47, [some (.bool, 512)])] t
abbrev BIG : Nat := 1000000000
end Go.X
