/- The types of the program. -/
import Derived.Test.YthlhbjahlanneaaGreatXS
import Derived.Test.YthlhbjahlanneaaGreatXK
import Derived.Test.YthlhbjahlanneaaGreatProg
namespace Go.X
open Go.RowKit Go.V Go.Proofs
def bodyOf (f : Func) : Code := match f.body with | some c => c | none => .skip
structure Entry where
  Term : Int
  Kind : Int
  Version : Int
  Server : Int
  Good : Bool
  Data : List Int
def dEntry : Entry := ⟨(0 : Int), (0 : Int), (0 : Int), (0 : Int), false, ([] : List Int)⟩
structure Held where
  Version : Int
  Data : List Int
def dHeld : Held := ⟨(0 : Int), ([] : List Int)⟩
structure Registry where
  Held : List Held
  Active : Int
  Before : Int
  Rollout : Int
  Yes : List Int
  No : Bool
def dRegistry : Registry := ⟨([] : List Held), (0 : Int), (0 : Int), (0 : Int), ([] : List Int), false⟩
structure Bundle where
  Version : Int
  Code : List Int
  Digest : List Int
  Tag : List Int
def dBundle : Bundle := ⟨(0 : Int), ([] : List Int), ([] : List Int), ([] : List Int)⟩
def UU : Nat → Type
  | 0 => Entry
  | 1 => Held
  | 2 => Registry
  | 3 => Bundle
  | _ => Unit
def Entry.cs (x : Entry) : List (Cell UU) := [⟨.int .i64, x.Term⟩, ⟨.int .u8, x.Kind⟩, ⟨.int .i64, x.Version⟩, ⟨.int .i64, x.Server⟩, ⟨.bool, x.Good⟩, ⟨.list (.int .u8), x.Data⟩]
def Entry.of : List (Cell UU) → Option Entry
  | [c0, c1, c2, c3, c4, c5] => match c0.as (.int .i64), c1.as (.int .u8), c2.as (.int .i64), c3.as (.int .i64), c4.as (.bool), c5.as (.list (.int .u8)) with
    | some a0, some a1, some a2, some a3, some a4, some a5 => some ⟨a0, a1, a2, a3, a4, a5⟩
    | _, _, _, _, _, _ => none
  | _ => none
theorem Entry.of_cs (cs : List (Cell UU)) (x : Entry) (h : Entry.of cs = some x) : x.cs = cs := by
  unfold Entry.of at h
  split at h
  · split at h
    · rename_i h0 h1 h2 h3 h4 h5
      simp only [Option.some.injEq] at h; subst h
      rw [Entry.cs, Cell.as_eq h0, Cell.as_eq h1, Cell.as_eq h2, Cell.as_eq h3, Cell.as_eq h4, Cell.as_eq h5]
    · cases h
  · cases h
def Held.cs (x : Held) : List (Cell UU) := [⟨.int .i64, x.Version⟩, ⟨.list (.int .u8), x.Data⟩]
def Held.of : List (Cell UU) → Option Held
  | [c0, c1] => match c0.as (.int .i64), c1.as (.list (.int .u8)) with
    | some a0, some a1 => some ⟨a0, a1⟩
    | _, _ => none
  | _ => none
theorem Held.of_cs (cs : List (Cell UU)) (x : Held) (h : Held.of cs = some x) : x.cs = cs := by
  unfold Held.of at h
  split at h
  · split at h
    · rename_i h0 h1
      simp only [Option.some.injEq] at h; subst h
      rw [Held.cs, Cell.as_eq h0, Cell.as_eq h1]
    · cases h
  · cases h
def Registry.cs (x : Registry) : List (Cell UU) := [⟨.list (.user 1), x.Held⟩, ⟨.int .i64, x.Active⟩, ⟨.int .i64, x.Before⟩, ⟨.int .i64, x.Rollout⟩, ⟨.list (.int .i64), x.Yes⟩, ⟨.bool, x.No⟩]
def Registry.of : List (Cell UU) → Option Registry
  | [c0, c1, c2, c3, c4, c5] => match c0.as (.list (.user 1)), c1.as (.int .i64), c2.as (.int .i64), c3.as (.int .i64), c4.as (.list (.int .i64)), c5.as (.bool) with
    | some a0, some a1, some a2, some a3, some a4, some a5 => some ⟨a0, a1, a2, a3, a4, a5⟩
    | _, _, _, _, _, _ => none
  | _ => none
theorem Registry.of_cs (cs : List (Cell UU)) (x : Registry) (h : Registry.of cs = some x) : x.cs = cs := by
  unfold Registry.of at h
  split at h
  · split at h
    · rename_i h0 h1 h2 h3 h4 h5
      simp only [Option.some.injEq] at h; subst h
      rw [Registry.cs, Cell.as_eq h0, Cell.as_eq h1, Cell.as_eq h2, Cell.as_eq h3, Cell.as_eq h4, Cell.as_eq h5]
    · cases h
  · cases h
def Bundle.cs (x : Bundle) : List (Cell UU) := [⟨.int .i64, x.Version⟩, ⟨.list (.int .u8), x.Code⟩, ⟨.list (.int .u8), x.Digest⟩, ⟨.list (.int .u8), x.Tag⟩]
def Bundle.of : List (Cell UU) → Option Bundle
  | [c0, c1, c2, c3] => match c0.as (.int .i64), c1.as (.list (.int .u8)), c2.as (.list (.int .u8)), c3.as (.list (.int .u8)) with
    | some a0, some a1, some a2, some a3 => some ⟨a0, a1, a2, a3⟩
    | _, _, _, _ => none
  | _ => none
theorem Bundle.of_cs (cs : List (Cell UU)) (x : Bundle) (h : Bundle.of cs = some x) : x.cs = cs := by
  unfold Bundle.of at h
  split at h
  · split at h
    · rename_i h0 h1 h2 h3
      simp only [Option.some.injEq] at h; subst h
      rw [Bundle.cs, Cell.as_eq h0, Cell.as_eq h1, Cell.as_eq h2, Cell.as_eq h3]
    · cases h
  · cases h
def TT : Tab where
  U := UU
  d := fun i => match i with
    | 0 => dEntry
    | 1 => dHeld
    | 2 => dRegistry
    | 3 => dBundle
    | _ + 4 => ()
  size := fun i => match i with
    | 0 => 6
    | 1 => 2
    | 2 => 6
    | 3 => 4
    | _ + 4 => 0
  cells := fun i => match i with
    | 0 => Entry.cs
    | 1 => Held.cs
    | 2 => Registry.cs
    | 3 => Bundle.cs
    | _ + 4 => fun _ => []
  len := fun i => match i with
    | 0 => fun _ => rfl
    | 1 => fun _ => rfl
    | 2 => fun _ => rfl
    | 3 => fun _ => rfl
    | _ + 4 => fun _ => rfl
  pack := fun i => match i with
    | 0 => Entry.of
    | 1 => Held.of
    | 2 => Registry.of
    | 3 => Bundle.of
    | _ + 4 => fun cl => match cl with | [] => some () | _ :: _ => none
  packed := fun i => match i with
    | 0 => Entry.of_cs
    | 1 => Held.of_cs
    | 2 => Registry.of_cs
    | 3 => Bundle.of_cs
    | _ + 4 => fun cl x h => by cases cl with | nil => rfl | cons a r => cases h
  scal := fun i => match i with
    | 0 => false
    | 1 => false
    | 2 => false
    | 3 => false
    | _ + 4 => true
  scals := fun i => match i with
    | 0 => fun _ h => by cases h
    | 1 => fun _ h => by cases h
    | 2 => fun _ h => by cases h
    | 3 => fun _ h => by cases h
    | _ + 4 => fun _ _ c hc => by cases hc
def lookT : List (Nat × Ty) → Nat → Option Ty
  | [], _ => none
  | (j, t) :: r, i => match Nat.beq j i with | true => some t | false => lookT r i
def tyOf (t : TypeId) : Option Ty := lookT [(22, .user 0), (28, .user 1), (29, .int .i64), (38, .int .u8), (55, .user 2), (56, .list (.user 2)), (60, .bool), (65, .list (.int .u8)), (66, .bool), (83, .list (.int .u32)), (84, .list (.int .u64)), (85, .list (.int .i64)), (86, .list (.int .i64)), (87, .list (.str)), (88, .list (.int .u8)), (89, .list (.bool)), (97, .list (.user 3)), (98, .list (.user 0)), (99, .list (.user 1)), (154, .int .u32), (156, .int .u64), (158, .int .i64), (159, .str), (193, .user 3)] t
def lookLy : List (Nat × Lay) → Nat → Option Lay
  | [], _ => none
  | (j, l) :: r, i => match Nat.beq j i with | true => some l | false => lookLy r i
def layOf (t : TypeId) : Option Lay := lookLy [] t
abbrev BIG : Nat := 1000000000
end Go.X
