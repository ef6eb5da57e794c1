/- The types of the program. -/
import Derived.Test.YtnldbfeakocbnaaGreatX22
import Derived.Test.YtnldbfeakocbnaaGreatProg
namespace Go.X
open Go.RowKit Go.V Go.Proofs
def bodyOf (f : Func) : Code := match f.body with | some c => c | none => .skip
structure Span where
  Lo : Int
  Hi : Int
def dSpan : Span := ⟨(0 : Int), (0 : Int)⟩
structure Work where
  a_Lo : Int
  a_Hi : Int
  b_Lo : Int
  b_Hi : Int
  narrow : Bool
  most : Int
  size : Int
def dWork : Work := ⟨(0 : Int), (0 : Int), (0 : Int), (0 : Int), false, (0 : Int), (0 : Int)⟩
def UU : Nat → Type
  | 0 => Span
  | 1 => Work
  | _ => Unit
def Span.cs (x : Span) : List (Cell UU) := [⟨.int .u64, x.Lo⟩, ⟨.int .u64, x.Hi⟩]
def Span.of : List (Cell UU) → Option Span
  | [c0, c1] => match c0.as (.int .u64), c1.as (.int .u64) with
    | some a0, some a1 => some ⟨a0, a1⟩
    | _, _ => none
  | _ => none
theorem Span.of_cs (cs : List (Cell UU)) (x : Span) (h : Span.of cs = some x) : x.cs = cs := by
  unfold Span.of at h
  split at h
  · split at h
    · rename_i h0 h1
      simp only [Option.some.injEq] at h; subst h
      rw [Span.cs, Cell.as_eq h0, Cell.as_eq h1]
    · cases h
  · cases h
def Work.cs (x : Work) : List (Cell UU) := [⟨.int .u64, x.a_Lo⟩, ⟨.int .u64, x.a_Hi⟩, ⟨.int .u64, x.b_Lo⟩, ⟨.int .u64, x.b_Hi⟩, ⟨.bool, x.narrow⟩, ⟨.int .u64, x.most⟩, ⟨.int .u64, x.size⟩]
def Work.of : List (Cell UU) → Option Work
  | [c0, c1, c2, c3, c4, c5, c6] => match c0.as (.int .u64), c1.as (.int .u64), c2.as (.int .u64), c3.as (.int .u64), c4.as (.bool), c5.as (.int .u64), c6.as (.int .u64) with
    | some a0, some a1, some a2, some a3, some a4, some a5, some a6 => some ⟨a0, a1, a2, a3, a4, a5, a6⟩
    | _, _, _, _, _, _, _ => none
  | _ => none
theorem Work.of_cs (cs : List (Cell UU)) (x : Work) (h : Work.of cs = some x) : x.cs = cs := by
  unfold Work.of at h
  split at h
  · split at h
    · rename_i h0 h1 h2 h3 h4 h5 h6
      simp only [Option.some.injEq] at h; subst h
      rw [Work.cs, Cell.as_eq h0, Cell.as_eq h1, Cell.as_eq h2, Cell.as_eq h3, Cell.as_eq h4, Cell.as_eq h5, Cell.as_eq h6]
    · cases h
  · cases h
def TT : Tab where
  U := UU
  d := fun i => match i with
    | 0 => dSpan
    | 1 => dWork
    | _ + 2 => ()
  size := fun i => match i with
    | 0 => 2
    | 1 => 7
    | _ + 2 => 0
  cells := fun i => match i with
    | 0 => Span.cs
    | 1 => Work.cs
    | _ + 2 => fun _ => []
  len := fun i => match i with
    | 0 => fun _ => rfl
    | 1 => fun _ => rfl
    | _ + 2 => fun _ => rfl
  pack := fun i => match i with
    | 0 => Span.of
    | 1 => Work.of
    | _ + 2 => fun cl => match cl with | [] => some () | _ :: _ => none
  packed := fun i => match i with
    | 0 => Span.of_cs
    | 1 => Work.of_cs
    | _ + 2 => fun cl x h => by cases cl with | nil => rfl | cons a r => cases h
  scal := fun i => match i with
    | 0 => true
    | 1 => true
    | _ + 2 => true
  scals := fun i => match i with
    | 0 => fun x _ c hc => by simp only [Span.cs, List.mem_cons, List.not_mem_nil, or_false] at hc; rcases hc with rfl | rfl <;> rfl
    | 1 => fun x _ c hc => by simp only [Work.cs, List.mem_cons, List.not_mem_nil, or_false] at hc; rcases hc with rfl | rfl | rfl | rfl | rfl | rfl | rfl <;> rfl
    | _ + 2 => fun _ _ c hc => by cases hc
def lookT : List (Nat × Ty) → Nat → Option Ty
  | [], _ => none
  | (j, t) :: r, i => match Nat.beq j i with | true => some t | false => lookT r i
def tyOf (t : TypeId) : Option Ty := lookT [(22, .int .u64), (24, .user 0)] t
def lookLy : List (Nat × Lay) → Nat → Option Lay
  | [], _ => none
  | (j, l) :: r, i => match Nat.beq j i with | true => some l | false => lookLy r i
def layOf (t : TypeId) : Option Lay := lookLy [(74, [some (.int .u8, 28)])] t
abbrev BIG : Nat := 1000000000
end Go.X
