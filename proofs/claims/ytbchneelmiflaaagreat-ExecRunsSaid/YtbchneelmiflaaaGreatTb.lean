import Derived.Test.YtbchneelmiflaaaGreatXP
import Derived.Test.YtbchneelmiflaaaGreatProg
namespace Go.X
open Go.RowKit Go.V Go.Proofs
def bodyOf (f : Func) : Code := match f.body with | some c => c | none => .skip
structure Ins where
 Op : Int
 Narrow : Bool
 Dst : Int
 Src : Int
 UseImm : Bool
 Off : Int
 Imm : Int
 Size : Int
def dIns : Ins := ⟨(0 : Int), false, (0 : Int), (0 : Int), false, (0 : Int), (0 : Int), (0 : Int)⟩
structure Fault where
 Err : Int
 At : Int
def dFault : Fault := ⟨(0 : Int), (0 : Int)⟩
structure Outcome where
 Err : Int
 At : Int
 Verdict : Int
 Steps : Int
def dOutcome : Outcome := ⟨(0 : Int), (0 : Int), (0 : Int), (0 : Int)⟩
structure Val where
 kind : Int
 n : Int
def dVal : Val := ⟨(0 : Int), (0 : Int)⟩
structure RVal where
 Kind : Int
 N : Int
def dRVal : RVal := ⟨(0 : Int), (0 : Int)⟩
def UU : Nat -> Type
 | 0 => Ins
 | 1 => Fault
 | 2 => Outcome
 | 3 => Val
 | 4 => RVal
 | _ => Unit
def Ins.cs (x : Ins) : List (Cell UU) := [⟨.int .u8, x.Op⟩, ⟨.bool, x.Narrow⟩, ⟨.int .i64, x.Dst⟩, ⟨.int .i64, x.Src⟩, ⟨.bool, x.UseImm⟩, ⟨.int .i64, x.Off⟩, ⟨.int .i64, x.Imm⟩, ⟨.int .i64, x.Size⟩]
def Ins.of : List (Cell UU) -> Option Ins
 | [c0, c1, c2, c3, c4, c5, c6, c7] => match c0.as (.int .u8), c1.as (.bool), c2.as (.int .i64), c3.as (.int .i64), c4.as (.bool), c5.as (.int .i64), c6.as (.int .i64), c7.as (.int .i64) with
  | some a0, some a1, some a2, some a3, some a4, some a5, some a6, some a7 => some ⟨a0, a1, a2, a3, a4, a5, a6, a7⟩
  | _, _, _, _, _, _, _, _ => none
 | _ => none
theorem Ins.of_cs (cs : List (Cell UU)) (x : Ins) (h : Ins.of cs = some x) : x.cs = cs := by
 unfold Ins.of at h
 split at h
 ·split at h
  ·rename_i h0 h1 h2 h3 h4 h5 h6 h7
   simp only [Option.some.injEq] at h; subst h
   rw [Ins.cs, Cell.as_eq h0, Cell.as_eq h1, Cell.as_eq h2, Cell.as_eq h3, Cell.as_eq h4, Cell.as_eq h5, Cell.as_eq h6, Cell.as_eq h7]
  ·cases h
 ·cases h
def Fault.cs (x : Fault) : List (Cell UU) := [⟨.int .i64, x.Err⟩, ⟨.int .i64, x.At⟩]
def Fault.of : List (Cell UU) -> Option Fault
 | [c0, c1] => match c0.as (.int .i64), c1.as (.int .i64) with
  | some a0, some a1 => some ⟨a0, a1⟩
  | _, _ => none
 | _ => none
theorem Fault.of_cs (cs : List (Cell UU)) (x : Fault) (h : Fault.of cs = some x) : x.cs = cs := by
 unfold Fault.of at h
 split at h
 ·split at h
  ·rename_i h0 h1
   simp only [Option.some.injEq] at h; subst h
   rw [Fault.cs, Cell.as_eq h0, Cell.as_eq h1]
  ·cases h
 ·cases h
def Outcome.cs (x : Outcome) : List (Cell UU) := [⟨.int .i64, x.Err⟩, ⟨.int .i64, x.At⟩, ⟨.int .u64, x.Verdict⟩, ⟨.int .i64, x.Steps⟩]
def Outcome.of : List (Cell UU) -> Option Outcome
 | [c0, c1, c2, c3] => match c0.as (.int .i64), c1.as (.int .i64), c2.as (.int .u64), c3.as (.int .i64) with
  | some a0, some a1, some a2, some a3 => some ⟨a0, a1, a2, a3⟩
  | _, _, _, _ => none
 | _ => none
theorem Outcome.of_cs (cs : List (Cell UU)) (x : Outcome) (h : Outcome.of cs = some x) : x.cs = cs := by
 unfold Outcome.of at h
 split at h
 ·split at h
  ·rename_i h0 h1 h2 h3
   simp only [Option.some.injEq] at h; subst h
   rw [Outcome.cs, Cell.as_eq h0, Cell.as_eq h1, Cell.as_eq h2, Cell.as_eq h3]
  ·cases h
 ·cases h
def Val.cs (x : Val) : List (Cell UU) := [⟨.int .u8, x.kind⟩, ⟨.int .u64, x.n⟩]
def Val.of : List (Cell UU) -> Option Val
 | [c0, c1] => match c0.as (.int .u8), c1.as (.int .u64) with
  | some a0, some a1 => some ⟨a0, a1⟩
  | _, _ => none
 | _ => none
theorem Val.of_cs (cs : List (Cell UU)) (x : Val) (h : Val.of cs = some x) : x.cs = cs := by
 unfold Val.of at h
 split at h
 ·split at h
  ·rename_i h0 h1
   simp only [Option.some.injEq] at h; subst h
   rw [Val.cs, Cell.as_eq h0, Cell.as_eq h1]
  ·cases h
 ·cases h
def RVal.cs (x : RVal) : List (Cell UU) := [⟨.int .u8, x.Kind⟩, ⟨.int .u64, x.N⟩]
def RVal.of : List (Cell UU) -> Option RVal
 | [c0, c1] => match c0.as (.int .u8), c1.as (.int .u64) with
  | some a0, some a1 => some ⟨a0, a1⟩
  | _, _ => none
 | _ => none
theorem RVal.of_cs (cs : List (Cell UU)) (x : RVal) (h : RVal.of cs = some x) : x.cs = cs := by
 unfold RVal.of at h
 split at h
 ·split at h
  ·rename_i h0 h1
   simp only [Option.some.injEq] at h; subst h
   rw [RVal.cs, Cell.as_eq h0, Cell.as_eq h1]
  ·cases h
 ·cases h
def TT : Tab where
 U := UU
 d := fun i => match i with
  | 0 => dIns
  | 1 => dFault
  | 2 => dOutcome
  | 3 => dVal
  | 4 => dRVal
  | _ + 5 => ()
 size := fun i => match i with
  | 0 => 8
  | 1 => 2
  | 2 => 4
  | 3 => 2
  | 4 => 2
  | _ + 5 => 0
 cells := fun i => match i with
  | 0 => Ins.cs
  | 1 => Fault.cs
  | 2 => Outcome.cs
  | 3 => Val.cs
  | 4 => RVal.cs
  | _ + 5 => fun _ => []
 len := fun i => match i with
  | 0 => fun _ => rfl
  | 1 => fun _ => rfl
  | 2 => fun _ => rfl
  | 3 => fun _ => rfl
  | 4 => fun _ => rfl
  | _ + 5 => fun _ => rfl
 pack := fun i => match i with
  | 0 => Ins.of
  | 1 => Fault.of
  | 2 => Outcome.of
  | 3 => Val.of
  | 4 => RVal.of
  | _ + 5 => fun cl => match cl with | [] => some () | _ :: _ => none
 packed := fun i => match i with
  | 0 => Ins.of_cs
  | 1 => Fault.of_cs
  | 2 => Outcome.of_cs
  | 3 => Val.of_cs
  | 4 => RVal.of_cs
  | _ + 5 => fun cl x h => by cases cl with | nil => rfl | cons a r => cases h
 scal := fun i => match i with
  | 0 => true
  | 1 => true
  | 2 => true
  | 3 => true
  | 4 => true
  | _ + 5 => true
 scals := fun i => match i with
  | 0 => fun x _ c hc => by simp only [Ins.cs, List.mem_cons, List.not_mem_nil, or_false] at hc; rcases hc with rfl | rfl | rfl | rfl | rfl | rfl | rfl | rfl <;> rfl
  | 1 => fun x _ c hc => by simp only [Fault.cs, List.mem_cons, List.not_mem_nil, or_false] at hc; rcases hc with rfl | rfl <;> rfl
  | 2 => fun x _ c hc => by simp only [Outcome.cs, List.mem_cons, List.not_mem_nil, or_false] at hc; rcases hc with rfl | rfl | rfl | rfl <;> rfl
  | 3 => fun x _ c hc => by simp only [Val.cs, List.mem_cons, List.not_mem_nil, or_false] at hc; rcases hc with rfl | rfl <;> rfl
  | 4 => fun x _ c hc => by simp only [RVal.cs, List.mem_cons, List.not_mem_nil, or_false] at hc; rcases hc with rfl | rfl <;> rfl
  | _ + 5 => fun _ _ c hc => by cases hc
def lookT : List (Nat × Ty) -> Nat -> Option Ty
 | [], _ => none
 | (j, t) :: r, i => match Nat.beq j i with | true => some t | false => lookT r i
def tyOf (t : TypeId) : Option Ty := lookT [(22, .user 0), (23, .int .u8), (61, .user 4), (62, .bool), (71, .int .i64)] t
def lookLy : List (Nat × Lay) -> Nat -> Option Lay
 | [], _ => none
 | (j, l) :: r, i => match Nat.beq j i with | true => some l | false => lookLy r i
def layOf (t : TypeId) : Option Lay := lookLy [(47, [some (.user 3, 11)]), (48, [some (.int .u8, 512)]), (49, [some (.bool, 512)]), (51, [some (.user 3, 11), some (.int .u8, 512), some (.bool, 512), none, none, none]), (52, [some (.user 3, 11), some (.int .u8, 512), some (.bool, 512), none, none, none]), (139, [some (.bool, 9)])] t
abbrev BIG : Nat := 1000000000
end Go.X
