/- What the functions of rows compute. -/
import Derived.Test.YtbklhipicfimeaaTb
namespace Go.X
open Go.RowKit Go.V Go.Proofs
noncomputable def ref13New_C : Ctx TT := ⟨tyOf, [], 0, [], layOf⟩
theorem ref13New_env : EnvOk TT Try.prog ref13New_C.E := envNil
def ref13New_cuts : List (Pos × Cut) := []
noncomputable def ref13New (n : Nat)  : Option (List Bool) := topF TT Try.prog ref13New_C ref13New_cuts Try.f19 (bodyOf Try.f19) ⟨[], []⟩ [] [.own 4 (.bool)] n ()
theorem ref13New_eq (n : Nat)  : ref13New n  =
  if 0 ≤ (512 : Int) ∧ (512 : Int) ≤ (512 : Int) ∧ 1 * 512 ≤ 281474976710656 ∧ (512 : Int) ≤ 9223372036854775807 then (some (List.replicate 512 false)) else none := by kernel_rfl
noncomputable def ref13New_sp : FnSpec TT := ⟨[], [.own 4 (.bool)], fun _ => ref13New BIG ⟩
theorem ref13New_ok : FnOk TT Try.prog 19 ref13New_sp := fnOk_of (C := ref13New_C) (by kernel_rfl) ref13New_env Try.func19 (show Try.f19.body = some (bodyOf Try.f19) by kernel_rfl) (by kernel_rfl) (by kernel_rfl) (cuts := ref13New_cuts) fun x y h => ⟨BIG, h⟩
noncomputable def ref13_place_C : Ctx TT := ⟨tyOf, [], 0, [], layOf⟩
theorem ref13_place_env : EnvOk TT Try.prog ref13_place_C.E := envNil
def ref13_place_cuts : List (Pos × Cut) := [([false, true], ⟨[1, 2, 25], [], false, []⟩)]
noncomputable def ref13_place (n : Nat) (x0 : List Bool) (x1 : Int) (x2 : Int) : Option (Int) := topF TT Try.prog ref13_place_C ref13_place_cuts Try.f29 (bodyOf Try.f29) ⟨[], []⟩ [.val (.list (.bool)), .val (.int .i64), .val (.int .i64)] [.val (.int .i64)] n (x0, x1, x2)
noncomputable def ref13_place_J0 (n : Nat) (s1 : Int) (s2 : Int) (s25 : Bool) : Option (Int) := cutF TT Try.prog ref13_place_C ref13_place_cuts Try.f29 (bodyOf Try.f29) ⟨[], []⟩ [.val (.list (.bool)), .val (.int .i64), .val (.int .i64)] [.val (.int .i64)] n [false, true] ⟨[(1, .cell ⟨.int .i64, s1⟩), (2, .cell ⟨.int .i64, s2⟩), (25, .cell ⟨.bool, s25⟩)], []⟩
theorem ref13_place_eq (n : Nat) (x0 : List Bool) (x1 : Int) (x2 : Int) : ref13_place n x0 x1 x2 =
  forkB (((x0.length : Nat) : Int) != (512 : Int))
  (ref13_place_J0 n x1 x2 true)
  (forkB (x2 != (1 : Int))
   (forkB (x2 != (2 : Int))
    (forkB (x2 != (4 : Int))
     (ref13_place_J0 n x1 x2 (x2 != (8 : Int)))
     (ref13_place_J0 n x1 x2 false))
    (ref13_place_J0 n x1 x2 false))
   (ref13_place_J0 n x1 x2 false)) := by kernel_rfl
theorem ref13_place_J0_eq (n : Nat) (s1 : Int) (s2 : Int) (s25 : Bool) : ref13_place_J0 (n + 1) s1 s2 s25 =
  forkB s25
  (some (2 : Int))
  (forkB (decide (s1 < (-512 : Int)))
   (some (112 : Int))
   (forkB (decide (s1 > (IntKind.i64.wrap (0 - s2))))
    (some (112 : Int))
    (some (0 : Int)))) := by kernel_rfl
noncomputable def ref13_place_sp : FnSpec TT := ⟨[.val (.list (.bool)), .val (.int .i64), .val (.int .i64)], [.val (.int .i64)], fun x => ref13_place BIG x.1 x.2.1 x.2.2⟩
theorem ref13_place_ok : FnOk TT Try.prog 29 ref13_place_sp := fnOk_of (C := ref13_place_C) (by kernel_rfl) ref13_place_env Try.func29 (show Try.f29.body = some (bodyOf Try.f29) by kernel_rfl) (by kernel_rfl) (by kernel_rfl) (cuts := ref13_place_cuts) fun x y h => ⟨BIG, h⟩
noncomputable def ref13Set_C : Ctx TT := ⟨tyOf, [(29, ref13_place_sp.toCall)], 0, [], layOf⟩
theorem ref13Set_env : EnvOk TT Try.prog ref13Set_C.E := envG (fnCall_ok ref13_place_ok) (envNil)
def ref13Set_cuts : List (Pos × Cut) := [([false, true, false, true, true, true], ⟨[1, 2, 9, 10], [], false, []⟩)]
noncomputable def ref13Set (n : Nat) (x0 : List Bool) (x1 : Int) (x2 : Int) : Option (List Bool × Int) := topF TT Try.prog ref13Set_C ref13Set_cuts Try.f10 (bodyOf Try.f10) ⟨[], []⟩ [.val (.list (.bool)), .val (.int .i64), .val (.int .i64)] [.own 4 (.bool), .val (.int .i64)] n (x0, x1, x2)
noncomputable def ref13Set_L0 (n : Nat) (s1 : Int) (s2 : Int) (s10 : Int) (r0 : List Bool) : Option (List Bool × Int) := cutF TT Try.prog ref13Set_C ref13Set_cuts Try.f10 (bodyOf Try.f10) ⟨[], []⟩ [.val (.list (.bool)), .val (.int .i64), .val (.int .i64)] [.own 4 (.bool), .val (.int .i64)] n [false, true, false, true, true, true] ⟨[(1, .cell ⟨.int .i64, s1⟩), (2, .cell ⟨.int .i64, s2⟩), (9, .own 0), (10, .cell ⟨.int .i64, s10⟩)], [.row 4 (.bool) r0]⟩
theorem ref13Set_eq (n : Nat) (x0 : List Bool) (x1 : Int) (x2 : Int) : ref13Set n x0 x1 x2 =
  obind (ref13_place BIG x0 x1 x2) fun y1 =>
  forkB (y1 != (0 : Int))
  (some (([] : List Bool), y1))
  (if (0 + x0.length) * 1 ≤ 140737488355328 then (ref13Set_L0 n x1 x2 (0 : Int) (([] : List Bool) ++ x0)) else none) := by kernel_rfl
theorem ref13Set_L0_eq (n : Nat) (s1 : Int) (s2 : Int) (s10 : Int) (r0 : List Bool) : ref13Set_L0 (n + 1) s1 s2 s10 r0 =
  forkB (decide (s10 < s2))
  (if 0 ≤ IntKind.i64.wrap ((IntKind.i64.wrap (s1 + (512 : Int))) + s10) ∧ IntKind.i64.wrap ((IntKind.i64.wrap (s1 + (512 : Int))) + s10) < ((r0.length : Nat) : Int) then (ref13Set_L0 n s1 s2 (IntKind.i64.wrap (s10 + (1 : Int))) (r0.set ((IntKind.i64.wrap ((IntKind.i64.wrap (s1 + (512 : Int))) + s10)).toNat) true)) else none)
  (some (r0, (0 : Int))) := by kernel_rfl
noncomputable def ref13Set_sp : FnSpec TT := ⟨[.val (.list (.bool)), .val (.int .i64), .val (.int .i64)], [.own 4 (.bool), .val (.int .i64)], fun x => ref13Set BIG x.1 x.2.1 x.2.2⟩
theorem ref13Set_ok : FnOk TT Try.prog 10 ref13Set_sp := fnOk_of (C := ref13Set_C) (by kernel_rfl) ref13Set_env Try.func10 (show Try.f10.body = some (bodyOf Try.f10) by kernel_rfl) (by kernel_rfl) (by kernel_rfl) (cuts := ref13Set_cuts) fun x y h => ⟨BIG, h⟩
noncomputable def ref13Read_C : Ctx TT := ⟨tyOf, [(29, ref13_place_sp.toCall)], 0, [], layOf⟩
theorem ref13Read_env : EnvOk TT Try.prog ref13Read_C.E := envG (fnCall_ok ref13_place_ok) (envNil)
def ref13Read_cuts : List (Pos × Cut) := [([false, true, false, true, true], ⟨[0, 1, 2, 8], [], false, []⟩)]
noncomputable def ref13Read (n : Nat) (x0 : List Bool) (x1 : Int) (x2 : Int) : Option (Int) := topF TT Try.prog ref13Read_C ref13Read_cuts Try.f14 (bodyOf Try.f14) ⟨[], []⟩ [.val (.list (.bool)), .val (.int .i64), .val (.int .i64)] [.val (.int .i64)] n (x0, x1, x2)
noncomputable def ref13Read_L0 (n : Nat) (s0 : List Bool) (s1 : Int) (s2 : Int) (s8 : Int) : Option (Int) := cutF TT Try.prog ref13Read_C ref13Read_cuts Try.f14 (bodyOf Try.f14) ⟨[], []⟩ [.val (.list (.bool)), .val (.int .i64), .val (.int .i64)] [.val (.int .i64)] n [false, true, false, true, true] ⟨[(0, .cell ⟨.list (.bool), s0⟩), (1, .cell ⟨.int .i64, s1⟩), (2, .cell ⟨.int .i64, s2⟩), (8, .cell ⟨.int .i64, s8⟩)], []⟩
theorem ref13Read_eq (n : Nat) (x0 : List Bool) (x1 : Int) (x2 : Int) : ref13Read n x0 x1 x2 =
  obind (ref13_place BIG x0 x1 x2) fun y1 =>
  forkB (y1 != (0 : Int))
  (some y1)
  (ref13Read_L0 n x0 x1 x2 (0 : Int)) := by kernel_rfl
theorem ref13Read_L0_eq (n : Nat) (s0 : List Bool) (s1 : Int) (s2 : Int) (s8 : Int) : ref13Read_L0 (n + 1) s0 s1 s2 s8 =
  forkB (decide (s8 < s2))
  (if 0 ≤ IntKind.i64.wrap ((IntKind.i64.wrap (s1 + (512 : Int))) + s8) ∧ IntKind.i64.wrap ((IntKind.i64.wrap (s1 + (512 : Int))) + s8) < ((s0.length : Nat) : Int) then (forkB (!(s0.getD ((IntKind.i64.wrap ((IntKind.i64.wrap (s1 + (512 : Int))) + s8)).toNat) false))
   (some (110 : Int))
   (ref13Read_L0 n s0 s1 s2 (IntKind.i64.wrap (s8 + (1 : Int))))) else none)
  (some (0 : Int)) := by kernel_rfl
noncomputable def ref13Read_sp : FnSpec TT := ⟨[.val (.list (.bool)), .val (.int .i64), .val (.int .i64)], [.val (.int .i64)], fun x => ref13Read BIG x.1 x.2.1 x.2.2⟩
theorem ref13Read_ok : FnOk TT Try.prog 14 ref13Read_sp := fnOk_of (C := ref13Read_C) (by kernel_rfl) ref13Read_env Try.func14 (show Try.f14.body = some (bodyOf Try.f14) by kernel_rfl) (by kernel_rfl) (by kernel_rfl) (cuts := ref13Read_cuts) fun x y h => ⟨BIG, h⟩
noncomputable def ref13Within_C : Ctx TT := ⟨tyOf, [], 0, [], layOf⟩
theorem ref13Within_env : EnvOk TT Try.prog ref13Within_C.E := envNil
def ref13Within_cuts : List (Pos × Cut) := [([false, true], ⟨[0, 1, 13], [], false, []⟩), ([false, true, false, true, true], ⟨[0, 1, 5], [], false, []⟩), ([false, false, true, false, false, true, false, true, true], ⟨[0, 1, 5, 28], [], false, []⟩)]
noncomputable def ref13Within (n : Nat) (x0 : List Bool) (x1 : List Bool) : Option (Bool) := topF TT Try.prog ref13Within_C ref13Within_cuts Try.f16 (bodyOf Try.f16) ⟨[], []⟩ [.val (.list (.bool)), .val (.list (.bool))] [.val (.bool)] n (x0, x1)
noncomputable def ref13Within_J0 (n : Nat) (s0 : List Bool) (s1 : List Bool) (s13 : Bool) : Option (Bool) := cutF TT Try.prog ref13Within_C ref13Within_cuts Try.f16 (bodyOf Try.f16) ⟨[], []⟩ [.val (.list (.bool)), .val (.list (.bool))] [.val (.bool)] n [false, true] ⟨[(0, .cell ⟨.list (.bool), s0⟩), (1, .cell ⟨.list (.bool), s1⟩), (13, .cell ⟨.bool, s13⟩)], []⟩
noncomputable def ref13Within_L1 (n : Nat) (s0 : List Bool) (s1 : List Bool) (s5 : Int) : Option (Bool) := cutF TT Try.prog ref13Within_C ref13Within_cuts Try.f16 (bodyOf Try.f16) ⟨[], []⟩ [.val (.list (.bool)), .val (.list (.bool))] [.val (.bool)] n [false, true, false, true, true] ⟨[(0, .cell ⟨.list (.bool), s0⟩), (1, .cell ⟨.list (.bool), s1⟩), (5, .cell ⟨.int .i64, s5⟩)], []⟩
noncomputable def ref13Within_J2 (n : Nat) (s0 : List Bool) (s1 : List Bool) (s5 : Int) (s28 : Bool) : Option (Bool) := cutF TT Try.prog ref13Within_C ref13Within_cuts Try.f16 (bodyOf Try.f16) ⟨[], []⟩ [.val (.list (.bool)), .val (.list (.bool))] [.val (.bool)] n [false, false, true, false, false, true, false, true, true] ⟨[(0, .cell ⟨.list (.bool), s0⟩), (1, .cell ⟨.list (.bool), s1⟩), (5, .cell ⟨.int .i64, s5⟩), (28, .cell ⟨.bool, s28⟩)], []⟩
theorem ref13Within_eq (n : Nat) (x0 : List Bool) (x1 : List Bool) : ref13Within n x0 x1 =
  forkB (((x0.length : Nat) : Int) != (512 : Int))
  (ref13Within_J0 n x0 x1 true)
  (ref13Within_J0 n x0 x1 (((x1.length : Nat) : Int) != (512 : Int))) := by kernel_rfl
theorem ref13Within_J0_eq (n : Nat) (s0 : List Bool) (s1 : List Bool) (s13 : Bool) : ref13Within_J0 (n + 1) s0 s1 s13 =
  forkB s13
  (some false)
  (ref13Within_L1 n s0 s1 (0 : Int)) := by kernel_rfl
theorem ref13Within_L1_eq (n : Nat) (s0 : List Bool) (s1 : List Bool) (s5 : Int) : ref13Within_L1 (n + 1) s0 s1 s5 =
  forkB (decide (s5 < (512 : Int)))
  (if 0 ≤ s5 ∧ s5 < ((s1.length : Nat) : Int) then (forkB (s1.getD s5.toNat false)
   (if 0 ≤ s5 ∧ s5 < ((s0.length : Nat) : Int) then (ref13Within_J2 n s0 s1 s5 (!(s0.getD s5.toNat false))) else none)
   (ref13Within_J2 n s0 s1 s5 false)) else none)
  (some true) := by kernel_rfl
theorem ref13Within_J2_eq (n : Nat) (s0 : List Bool) (s1 : List Bool) (s5 : Int) (s28 : Bool) : ref13Within_J2 (n + 1) s0 s1 s5 s28 =
  forkB s28
  (some false)
  (ref13Within_L1 n s0 s1 (IntKind.i64.wrap (s5 + (1 : Int)))) := by kernel_rfl
noncomputable def ref13Within_sp : FnSpec TT := ⟨[.val (.list (.bool)), .val (.list (.bool))], [.val (.bool)], fun x => ref13Within BIG x.1 x.2⟩
theorem ref13Within_ok : FnOk TT Try.prog 16 ref13Within_sp := fnOk_of (C := ref13Within_C) (by kernel_rfl) ref13Within_env Try.func16 (show Try.f16.body = some (bodyOf Try.f16) by kernel_rfl) (by kernel_rfl) (by kernel_rfl) (cuts := ref13Within_cuts) fun x y h => ⟨BIG, h⟩
noncomputable def ref13Join_C : Ctx TT := ⟨tyOf, [], 0, [], layOf⟩
theorem ref13Join_env : EnvOk TT Try.prog ref13Join_C.E := envNil
def ref13Join_cuts : List (Pos × Cut) := [([false, true], ⟨[0, 1, 14], [], false, []⟩), ([false, true, false, true, true, true], ⟨[0, 1, 5, 6], [], false, []⟩), ([true, false, false, true, false, true, true, true], ⟨[0, 1, 5, 6], [], false, []⟩)]
noncomputable def ref13Join (n : Nat) (x0 : List Bool) (x1 : List Bool) : Option (List Bool) := topF TT Try.prog ref13Join_C ref13Join_cuts Try.f17 (bodyOf Try.f17) ⟨[], []⟩ [.val (.list (.bool)), .val (.list (.bool))] [.own 4 (.bool)] n (x0, x1)
noncomputable def ref13Join_J0 (n : Nat) (s0 : List Bool) (s1 : List Bool) (s14 : Bool) : Option (List Bool) := cutF TT Try.prog ref13Join_C ref13Join_cuts Try.f17 (bodyOf Try.f17) ⟨[], []⟩ [.val (.list (.bool)), .val (.list (.bool))] [.own 4 (.bool)] n [false, true] ⟨[(0, .cell ⟨.list (.bool), s0⟩), (1, .cell ⟨.list (.bool), s1⟩), (14, .cell ⟨.bool, s14⟩)], []⟩
noncomputable def ref13Join_L1 (n : Nat) (s0 : List Bool) (s1 : List Bool) (s6 : Int) (r0 : List Bool) : Option (List Bool) := cutF TT Try.prog ref13Join_C ref13Join_cuts Try.f17 (bodyOf Try.f17) ⟨[], []⟩ [.val (.list (.bool)), .val (.list (.bool))] [.own 4 (.bool)] n [false, true, false, true, true, true] ⟨[(0, .cell ⟨.list (.bool), s0⟩), (1, .cell ⟨.list (.bool), s1⟩), (5, .own 0), (6, .cell ⟨.int .i64, s6⟩)], [.row 4 (.bool) r0]⟩
noncomputable def ref13Join_J2 (n : Nat) (s0 : List Bool) (s1 : List Bool) (s6 : Int) (r0 : List Bool) : Option (List Bool) := cutF TT Try.prog ref13Join_C ref13Join_cuts Try.f17 (bodyOf Try.f17) ⟨[], []⟩ [.val (.list (.bool)), .val (.list (.bool))] [.own 4 (.bool)] n [true, false, false, true, false, true, true, true] ⟨[(0, .cell ⟨.list (.bool), s0⟩), (1, .cell ⟨.list (.bool), s1⟩), (5, .own 0), (6, .cell ⟨.int .i64, s6⟩)], [.row 4 (.bool) r0]⟩
theorem ref13Join_eq (n : Nat) (x0 : List Bool) (x1 : List Bool) : ref13Join n x0 x1 =
  forkB (((x0.length : Nat) : Int) != (512 : Int))
  (ref13Join_J0 n x0 x1 true)
  (ref13Join_J0 n x0 x1 (((x1.length : Nat) : Int) != (512 : Int))) := by kernel_rfl
theorem ref13Join_J0_eq (n : Nat) (s0 : List Bool) (s1 : List Bool) (s14 : Bool) : ref13Join_J0 (n + 1) s0 s1 s14 =
  forkB s14
  (some ([] : List Bool))
  (if 0 ≤ (512 : Int) ∧ (512 : Int) ≤ (512 : Int) ∧ 1 * 512 ≤ 281474976710656 ∧ (512 : Int) ≤ 9223372036854775807 then (ref13Join_L1 n s0 s1 (0 : Int) (List.replicate 512 false)) else none) := by kernel_rfl
theorem ref13Join_L1_eq (n : Nat) (s0 : List Bool) (s1 : List Bool) (s6 : Int) (r0 : List Bool) : ref13Join_L1 (n + 1) s0 s1 s6 r0 =
  forkB (decide (s6 < (512 : Int)))
  (if 0 ≤ s6 ∧ s6 < ((s0.length : Nat) : Int) then (forkB (s0.getD s6.toNat false)
   (if 0 ≤ s6 ∧ s6 < ((s1.length : Nat) : Int) then (if 0 ≤ s6 ∧ s6 < ((r0.length : Nat) : Int) then (ref13Join_J2 n s0 s1 s6 (r0.set s6.toNat (s1.getD s6.toNat false))) else none) else none)
   (if 0 ≤ s6 ∧ s6 < ((r0.length : Nat) : Int) then (ref13Join_J2 n s0 s1 s6 (r0.set s6.toNat false)) else none)) else none)
  (some r0) := by kernel_rfl
theorem ref13Join_J2_eq (n : Nat) (s0 : List Bool) (s1 : List Bool) (s6 : Int) (r0 : List Bool) : ref13Join_J2 (n + 1) s0 s1 s6 r0 =
  ref13Join_L1 n s0 s1 (IntKind.i64.wrap (s6 + (1 : Int))) r0 := by kernel_rfl
noncomputable def ref13Join_sp : FnSpec TT := ⟨[.val (.list (.bool)), .val (.list (.bool))], [.own 4 (.bool)], fun x => ref13Join BIG x.1 x.2⟩
theorem ref13Join_ok : FnOk TT Try.prog 17 ref13Join_sp := fnOk_of (C := ref13Join_C) (by kernel_rfl) ref13Join_env Try.func17 (show Try.f17.body = some (bodyOf Try.f17) by kernel_rfl) (by kernel_rfl) (by kernel_rfl) (cuts := ref13Join_cuts) fun x y h => ⟨BIG, h⟩
noncomputable def kitSameTruths_C : Ctx TT := ⟨tyOf, [], 0, [], layOf⟩
theorem kitSameTruths_env : EnvOk TT Try.prog kitSameTruths_C.E := envNil
def kitSameTruths_cuts : List (Pos × Cut) := [([false, true, false, true, true], ⟨[0, 1, 5], [], false, []⟩)]
noncomputable def kitSameTruths (n : Nat) (x0 : List Bool) (x1 : List Bool) : Option (Bool) := topF TT Try.prog kitSameTruths_C kitSameTruths_cuts Try.f12 (bodyOf Try.f12) ⟨[], []⟩ [.val (.list (.bool)), .val (.list (.bool))] [.val (.bool)] n (x0, x1)
noncomputable def kitSameTruths_L0 (n : Nat) (s0 : List Bool) (s1 : List Bool) (s5 : Int) : Option (Bool) := cutF TT Try.prog kitSameTruths_C kitSameTruths_cuts Try.f12 (bodyOf Try.f12) ⟨[], []⟩ [.val (.list (.bool)), .val (.list (.bool))] [.val (.bool)] n [false, true, false, true, true] ⟨[(0, .cell ⟨.list (.bool), s0⟩), (1, .cell ⟨.list (.bool), s1⟩), (5, .cell ⟨.int .i64, s5⟩)], []⟩
theorem kitSameTruths_eq (n : Nat) (x0 : List Bool) (x1 : List Bool) : kitSameTruths n x0 x1 =
  forkB (((x0.length : Nat) : Int) != ((x1.length : Nat) : Int))
  (some false)
  (kitSameTruths_L0 n x0 x1 (0 : Int)) := by kernel_rfl
theorem kitSameTruths_L0_eq (n : Nat) (s0 : List Bool) (s1 : List Bool) (s5 : Int) : kitSameTruths_L0 (n + 1) s0 s1 s5 =
  forkB (decide (s5 < ((s0.length : Nat) : Int)))
  (if 0 ≤ s5 ∧ s5 < ((s0.length : Nat) : Int) then (if 0 ≤ s5 ∧ s5 < ((s1.length : Nat) : Int) then (forkB (!((s0.getD s5.toNat false) == (s1.getD s5.toNat false)))
   (some false)
   (kitSameTruths_L0 n s0 s1 (IntKind.i64.wrap (s5 + (1 : Int))))) else none) else none)
  (some true) := by kernel_rfl
noncomputable def kitSameTruths_sp : FnSpec TT := ⟨[.val (.list (.bool)), .val (.list (.bool))], [.val (.bool)], fun x => kitSameTruths BIG x.1 x.2⟩
theorem kitSameTruths_ok : FnOk TT Try.prog 12 kitSameTruths_sp := fnOk_of (C := kitSameTruths_C) (by kernel_rfl) kitSameTruths_env Try.func12 (show Try.f12.body = some (bodyOf Try.f12) by kernel_rfl) (by kernel_rfl) (by kernel_rfl) (cuts := kitSameTruths_cuts) fun x y h => ⟨BIG, h⟩
noncomputable def stackNew_C : Ctx TT := ⟨tyOf, [], 0, [], layOf⟩
theorem stackNew_env : EnvOk TT Try.prog stackNew_C.E := envNil
def stackNew_cuts : List (Pos × Cut) := []
noncomputable def stackNew (n : Nat)  : Option (List Bool) := topF TT Try.prog stackNew_C stackNew_cuts Try.f18 (bodyOf Try.f18) ⟨[], []⟩ [] [.own 4 (.bool)] n ()
theorem stackNew_eq (n : Nat)  : stackNew n  =
  if 0 ≤ (512 : Int) ∧ (512 : Int) ≤ (512 : Int) ∧ 1 * 512 ≤ 281474976710656 ∧ (512 : Int) ≤ 9223372036854775807 then (some (List.replicate 512 false)) else none := by kernel_rfl
noncomputable def stackNew_sp : FnSpec TT := ⟨[], [.own 4 (.bool)], fun _ => stackNew BIG ⟩
theorem stackNew_ok : FnOk TT Try.prog 18 stackNew_sp := fnOk_of (C := stackNew_C) (by kernel_rfl) stackNew_env Try.func18 (show Try.f18.body = some (bodyOf Try.f18) by kernel_rfl) (by kernel_rfl) (by kernel_rfl) (cuts := stackNew_cuts) fun x y h => ⟨BIG, h⟩
noncomputable def stack_of_g1_C : Ctx TT := ⟨tyOf, [], 0, [], layOf⟩
theorem stack_of_g1_env : EnvOk TT Try.prog stack_of_g1_C.E := envNil
def stack_of_g1_cuts : List (Pos × Cut) := []
noncomputable def stack_of_g1 (n : Nat) (x0 : List Bool) : Option ((Unit) × ((List Bool × Unit) ⊕ (Int × Unit))) := topP TT Try.prog stack_of_g1_C stack_of_g1_cuts Try.f27 (bodyOf Try.f27) ⟨[], [], [], [], []⟩ [.val (.list (.bool))] [] [.lpk (.bool) 0 0] (.ifc 25 (.val (.int .i64))) n (x0, ())
theorem stack_of_g1_eq (n : Nat) (x0 : List Bool) : stack_of_g1 n x0 =
  forkB (((x0.length : Nat) : Int) != (512 : Int))
  (some ((), .inr ((2 : Int), ())))
  (if 512 ≤ x0.length then (some ((), .inl (x0, ()))) else none) := by kernel_rfl
noncomputable def stack_of_g1_sp : PSpec TT := ⟨[.val (.list (.bool))], [], [.lpk (.bool) 0 0], .ifc 25 (.val (.int .i64)), fun x => stack_of_g1 BIG x.1⟩
theorem stack_of_g1_ok : POk TT Try.prog 27 stack_of_g1_sp := pOk_of (C := stack_of_g1_C) (cuts := stack_of_g1_cuts) (by kernel_rfl) stack_of_g1_env Try.func27 (show Try.f27.body = some (bodyOf Try.f27) by kernel_rfl) (by kernel_rfl) (by kernel_rfl) (by kernel_rfl) fun x y h => ⟨BIG, h⟩
noncomputable def stack_truths_part_g1_C : Ctx TT := ⟨tyOf, [], 1, [], layOf⟩
theorem stack_truths_part_g1_env : EnvOk TT Try.prog stack_truths_part_g1_C.E := envNil
def stack_truths_part_g1_cuts : List (Pos × Cut) := [([true], ⟨[0, 1, 2], [], false, []⟩), ([false, true, false, true], ⟨[0, 1, 2, 9], [], false, []⟩), ([true, true], ⟨[0, 1, 2], [], false, []⟩), ([false, true, true], ⟨[0, 1, 2, 21], [], false, []⟩)]
noncomputable def stack_truths_part_g1 (n : Nat) (x0 : List Bool) (x1 : Int) (x2 : Int) : Option (((List Bool × Unit) × Unit) × (((Nat × Nat) × Unit) ⊕ (Int × Unit))) := topP TT Try.prog stack_truths_part_g1_C stack_truths_part_g1_cuts Try.f28 (bodyOf Try.f28) ⟨[], [], [], [], []⟩ [.ptr 0 47 [.arr (.bool) 512], .val (.int .i64), .val (.int .i64)] [.blk 47 [.arr (.bool) 512]] [.asp 0 0 1 512] (.ifc 25 (.val (.int .i64))) n ((x0, ()), x1, x2, ())
noncomputable def stack_truths_part_g1_J1 (n : Nat) (s1 : Int) (s2 : Int) (s9 : Bool) (b0_0l : List Bool) : Option (((List Bool × Unit) × Unit) × (((Nat × Nat) × Unit) ⊕ (Int × Unit))) := cutP TT Try.prog stack_truths_part_g1_C stack_truths_part_g1_cuts Try.f28 (bodyOf Try.f28) ⟨[], [], [], [], []⟩ [.blk 47 [.arr (.bool) 512]] [.asp 0 0 1 512] (.ifc 25 (.val (.int .i64))) n [false, true, false, true] ⟨[(0, .ptr 0 0), (1, .cell ⟨.int .i64, s1⟩), (2, .cell ⟨.int .i64, s2⟩), (9, .cell ⟨.bool, s9⟩)], [.blk 47 [.arr (.bool) 512 b0_0l]]⟩
noncomputable def stack_truths_part_g1_J0 (n : Nat) (s1 : Int) (s2 : Int) (b0_0l : List Bool) : Option (((List Bool × Unit) × Unit) × (((Nat × Nat) × Unit) ⊕ (Int × Unit))) := cutP TT Try.prog stack_truths_part_g1_C stack_truths_part_g1_cuts Try.f28 (bodyOf Try.f28) ⟨[], [], [], [], []⟩ [.blk 47 [.arr (.bool) 512]] [.asp 0 0 1 512] (.ifc 25 (.val (.int .i64))) n [true] ⟨[(0, .ptr 0 0), (1, .cell ⟨.int .i64, s1⟩), (2, .cell ⟨.int .i64, s2⟩)], [.blk 47 [.arr (.bool) 512 b0_0l]]⟩
noncomputable def stack_truths_part_g1_J3 (n : Nat) (s1 : Int) (s2 : Int) (s21 : Bool) (b0_0l : List Bool) : Option (((List Bool × Unit) × Unit) × (((Nat × Nat) × Unit) ⊕ (Int × Unit))) := cutP TT Try.prog stack_truths_part_g1_C stack_truths_part_g1_cuts Try.f28 (bodyOf Try.f28) ⟨[], [], [], [], []⟩ [.blk 47 [.arr (.bool) 512]] [.asp 0 0 1 512] (.ifc 25 (.val (.int .i64))) n [false, true, true] ⟨[(0, .ptr 0 0), (1, .cell ⟨.int .i64, s1⟩), (2, .cell ⟨.int .i64, s2⟩), (21, .cell ⟨.bool, s21⟩)], [.blk 47 [.arr (.bool) 512 b0_0l]]⟩
noncomputable def stack_truths_part_g1_J2 (n : Nat) (s1 : Int) (s2 : Int) (b0_0l : List Bool) : Option (((List Bool × Unit) × Unit) × (((Nat × Nat) × Unit) ⊕ (Int × Unit))) := cutP TT Try.prog stack_truths_part_g1_C stack_truths_part_g1_cuts Try.f28 (bodyOf Try.f28) ⟨[], [], [], [], []⟩ [.blk 47 [.arr (.bool) 512]] [.asp 0 0 1 512] (.ifc 25 (.val (.int .i64))) n [true, true] ⟨[(0, .ptr 0 0), (1, .cell ⟨.int .i64, s1⟩), (2, .cell ⟨.int .i64, s2⟩)], [.blk 47 [.arr (.bool) 512 b0_0l]]⟩
theorem stack_truths_part_g1_eq (n : Nat) (x0 : List Bool) (x1 : Int) (x2 : Int) : stack_truths_part_g1 n x0 x1 x2 =
  forkB (x2 == (1 : Int))
  (stack_truths_part_g1_J1 n x1 x2 (x2 == (1 : Int)) x0)
  (forkB (x2 == (2 : Int))
   (stack_truths_part_g1_J1 n x1 x2 (x2 == (2 : Int)) x0)
   (forkB (x2 == (4 : Int))
    (stack_truths_part_g1_J1 n x1 x2 (x2 == (4 : Int)) x0)
    (stack_truths_part_g1_J1 n x1 x2 (x2 == (8 : Int)) x0))) := by kernel_rfl
theorem stack_truths_part_g1_J1_eq (n : Nat) (s1 : Int) (s2 : Int) (s9 : Bool) (b0_0l : List Bool) : stack_truths_part_g1_J1 (n + 1) s1 s2 s9 b0_0l =
  forkB s9
  (stack_truths_part_g1_J0 n s1 s2 b0_0l)
  (some (((b0_0l, ()), ()), .inr ((2 : Int), ()))) := by kernel_rfl
theorem stack_truths_part_g1_J0_eq (n : Nat) (s1 : Int) (s2 : Int) (b0_0l : List Bool) : stack_truths_part_g1_J0 (n + 1) s1 s2 b0_0l =
  forkB (decide (s1 < (-512 : Int)))
  (stack_truths_part_g1_J3 n s1 s2 true b0_0l)
  (stack_truths_part_g1_J3 n s1 s2 (decide (s1 > (IntKind.i64.wrap (0 - s2)))) b0_0l) := by kernel_rfl
theorem stack_truths_part_g1_J3_eq (n : Nat) (s1 : Int) (s2 : Int) (s21 : Bool) (b0_0l : List Bool) : stack_truths_part_g1_J3 (n + 1) s1 s2 s21 b0_0l =
  forkB s21
  (some (((b0_0l, ()), ()), .inr ((112 : Int), ())))
  (stack_truths_part_g1_J2 n s1 s2 b0_0l) := by kernel_rfl
theorem stack_truths_part_g1_J2_eq (n : Nat) (s1 : Int) (s2 : Int) (b0_0l : List Bool) : stack_truths_part_g1_J2 (n + 1) s1 s2 b0_0l =
  if 0 ≤ IntKind.i64.wrap ((512 : Int) + s1) ∧ IntKind.i64.wrap ((512 : Int) + s1) ≤ ((512 : Nat) : Int) ∧ ((512 : Nat) : Int) ≤ ((512 : Nat) : Int) then (if 0 ≤ (0 : Int) ∧ (0 : Int) ≤ s2 ∧ (((IntKind.i64.wrap ((512 : Int) + s1)).toNat : Nat) : Int) + s2 ≤ ((512 : Nat) : Int) then (some (((b0_0l, ()), ()), .inl ((((IntKind.i64.wrap ((512 : Int) + s1)).toNat) + 0, s2.toNat - 0), ()))) else none) else none := by kernel_rfl
noncomputable def stack_truths_part_g1_sp : PSpec TT := ⟨[.ptr 0 47 [.arr (.bool) 512], .val (.int .i64), .val (.int .i64)], [.blk 47 [.arr (.bool) 512]], [.asp 0 0 1 512], .ifc 25 (.val (.int .i64)), fun x => stack_truths_part_g1 BIG x.1.1 x.2.1 x.2.2.1⟩
theorem stack_truths_part_g1_ok : POk TT Try.prog 28 stack_truths_part_g1_sp := pOk_of (C := stack_truths_part_g1_C) (cuts := stack_truths_part_g1_cuts) (by kernel_rfl) stack_truths_part_g1_env Try.func28 (show Try.f28.body = some (bodyOf Try.f28) by kernel_rfl) (by kernel_rfl) (by kernel_rfl) (by kernel_rfl) fun x y h => ⟨BIG, h⟩
noncomputable def stackSet_1_g1_C : Ctx TT := ⟨tyOf, [(27, stack_of_g1_sp.toCall (noCall TT)), (28, stack_truths_part_g1_sp.toCall (noCall TT))], 3, [], layOf⟩
theorem stackSet_1_g1_env : EnvOk TT Try.prog stackSet_1_g1_C.E := envG (pCall_ok stack_of_g1_ok (noCall_ok 27)) (envG (pCall_ok stack_truths_part_g1_ok (noCall_ok 28)) (envNil))
def stackSet_1_g1_cuts : List (Pos × Cut) := [([false, true, false, true, true, true], ⟨[4, 5, 15, 16], [], false, []⟩)]
noncomputable def stackSet_1_g1 (n : Nat) (x0 : List Bool) (x1 : Int) (x2 : Int) : Option (((List Bool × Unit) × (Int × Unit) × (Int × Unit) × Unit) × ((List Bool × Unit) ⊕ (Int × Unit))) := topP TT Try.prog stackSet_1_g1_C stackSet_1_g1_cuts Try.f26 (bodyOf Try.f26) ⟨[], [], [], [], [0]⟩ [.ptr 0 22 [.val (.list (.bool))], .ptr 0 2 [.val (.int .i64)], .ptr 0 3 [.val (.int .i64)]] [.blk 22 [.val (.list (.bool))], .blk 2 [.val (.int .i64)], .blk 3 [.val (.int .i64)]] [.row 47 (.bool)] (.ifc 25 (.val (.int .i64))) n ((x0, ()), (x1, ()), (x2, ()), ())
noncomputable def stackSet_1_g1_L0 (n : Nat) (s5o : Nat) (s5n : Nat) (s15 : Int) (s16 : Int) (b0_0 : List Bool) (b1_0 : Int) (b2_0 : Int) (b3_0l : List Bool) : Option (((List Bool × Unit) × (Int × Unit) × (Int × Unit) × Unit) × ((List Bool × Unit) ⊕ (Int × Unit))) := cutP TT Try.prog stackSet_1_g1_C stackSet_1_g1_cuts Try.f26 (bodyOf Try.f26) ⟨[], [], [], [], [0]⟩ [.blk 22 [.val (.list (.bool))], .blk 2 [.val (.int .i64)], .blk 3 [.val (.int .i64)]] [.row 47 (.bool)] (.ifc 25 (.val (.int .i64))) n [false, true, false, true, true, true] ⟨[(4, .ptr 3 0), (5, .asl 3 0 1 512 s5o s5n), (15, .cell ⟨.int .i64, s15⟩), (16, .cell ⟨.int .i64, s16⟩)], [.blk 22 [.cell ⟨.list (.bool), b0_0⟩], .blk 2 [.cell ⟨.int .i64, b1_0⟩], .blk 3 [.cell ⟨.int .i64, b2_0⟩], .blk 47 [.arr (.bool) 512 b3_0l]]⟩
theorem stackSet_1_g1_eq (n : Nat) (x0 : List Bool) (x1 : Int) (x2 : Int) : stackSet_1_g1 n x0 x1 x2 =
  obind (stack_of_g1 BIG x0) fun y1 => match y1.2 with
  | .inl z1 => (if 512 ≤ z1.1.length then (obind (stack_truths_part_g1 BIG (List.take 512 (List.drop 0 z1.1)) x1 x2) fun y2 => match y2.2 with
   | .inl z2 => (stackSet_1_g1_L0 n z2.1.1 z2.1.2 ((z2.1.2 : Nat) : Int) (0 : Int) x0 x1 x2 y2.1.1.1)
   | .inr e2 => (some (((x0, ()), (x1, ()), (x2, ()), ()), .inr (e2.1, ())))) else none)
  | .inr e1 => (some (((x0, ()), (x1, ()), (x2, ()), ()), .inr (e1.1, ()))) := by kernel_rfl
theorem stackSet_1_g1_L0_eq (n : Nat) (s5o : Nat) (s5n : Nat) (s15 : Int) (s16 : Int) (b0_0 : List Bool) (b1_0 : Int) (b2_0 : Int) (b3_0l : List Bool) : stackSet_1_g1_L0 (n + 1) s5o s5n s15 s16 b0_0 b1_0 b2_0 b3_0l =
  forkB (decide (s16 < s15))
  (if 0 ≤ s16 ∧ s16 < ((s5n : Nat) : Int) then (stackSet_1_g1_L0 n s5o s5n s15 (IntKind.i64.wrap (s16 + (1 : Int))) b0_0 b1_0 b2_0 (b3_0l.set (s5o + s16.toNat) true)) else none)
  (some (((b0_0, ()), (b1_0, ()), (b2_0, ()), ()), .inl (b3_0l, ()))) := by kernel_rfl
noncomputable def stackSet_1_g1_sp : PSpec TT := ⟨[.ptr 0 22 [.val (.list (.bool))], .ptr 0 2 [.val (.int .i64)], .ptr 0 3 [.val (.int .i64)]], [.blk 22 [.val (.list (.bool))], .blk 2 [.val (.int .i64)], .blk 3 [.val (.int .i64)]], [.row 47 (.bool)], .ifc 25 (.val (.int .i64)), fun x => stackSet_1_g1 BIG x.1.1 x.2.1.1 x.2.2.1.1⟩
theorem stackSet_1_g1_ok : POk TT Try.prog 26 stackSet_1_g1_sp := pOk_of (C := stackSet_1_g1_C) (cuts := stackSet_1_g1_cuts) (by kernel_rfl) stackSet_1_g1_env Try.func26 (show Try.f26.body = some (bodyOf Try.f26) by kernel_rfl) (by kernel_rfl) (by kernel_rfl) (by kernel_rfl) fun x y h => ⟨BIG, h⟩
noncomputable def stack_tried_i1_d1_C : Ctx TT := ⟨tyOf, [], 1, [], layOf⟩
theorem stack_tried_i1_d1_env : EnvOk TT Try.prog stack_tried_i1_d1_C.E := envNil
noncomputable def stack_tried_i1_d1 (x0 : Int) : Option ((Int × Unit) × Unit) := topDf Try.prog stack_tried_i1_d1_C Try.f34 (bodyOf Try.f34) [.ptr 0 25 [.val (.int .i64)]] (.rw 1) [.blk 25 [.val (.int .i64)]] ((x0, ()), (), ())
theorem stack_tried_i1_d1_eq (x0 : Int) : stack_tried_i1_d1 x0 =
  some ((x0, ()), ()) := by kernel_rfl
noncomputable def stack_tried_i1_d1_dsp : DSpec TT := ⟨[.ptr 0 25 [.val (.int .i64)]], .rw 1, [.blk 25 [.val (.int .i64)]], fun x => stack_tried_i1_d1 x.1.1⟩
theorem stack_tried_i1_d1_dok : DOk TT Try.prog 34 stack_tried_i1_d1_dsp := dOk_of (C := stack_tried_i1_d1_C) (by kernel_rfl) stack_tried_i1_d1_env Try.func34 (show Try.f34.body = some (bodyOf Try.f34) by kernel_rfl) (by kernel_rfl) (by kernel_rfl) (by kernel_rfl) (by kernel_rfl) fun x y h => h
noncomputable def stack_tried_i1_d2_C : Ctx TT := ⟨tyOf, [], 1, [], layOf⟩
theorem stack_tried_i1_d2_env : EnvOk TT Try.prog stack_tried_i1_d2_C.E := envNil
noncomputable def stack_tried_i1_d2 (x0 : Int) (x1 : Int) : Option ((Int × Unit) × Unit) := topDf Try.prog stack_tried_i1_d2_C Try.f34 (bodyOf Try.f34) [.ptr 0 25 [.val (.int .i64)]] (.ifc 25 (.val (.int .i64))) [.blk 25 [.val (.int .i64)]] ((x0, ()), x1, ())
theorem stack_tried_i1_d2_eq (x0 : Int) (x1 : Int) : stack_tried_i1_d2 x0 x1 =
  some ((x1, ()), ()) := by kernel_rfl
noncomputable def stack_tried_i1_d2_dsp : DSpec TT := ⟨[.ptr 0 25 [.val (.int .i64)]], .ifc 25 (.val (.int .i64)), [.blk 25 [.val (.int .i64)]], fun x => stack_tried_i1_d2 x.1.1 x.2.1⟩
theorem stack_tried_i1_d2_dok : DOk TT Try.prog 34 stack_tried_i1_d2_dsp := dOk_of (C := stack_tried_i1_d2_C) (by kernel_rfl) stack_tried_i1_d2_env Try.func34 (show Try.f34.body = some (bodyOf Try.f34) by kernel_rfl) (by kernel_rfl) (by kernel_rfl) (by kernel_rfl) (by kernel_rfl) fun x y h => h
noncomputable def stack_tried_g1_C : Ctx TT := ⟨tyOf, [(26, stackSet_1_g1_sp.toCall (noCall TT))], 3, [], layOf⟩
theorem stack_tried_g1_env : EnvOk TT Try.prog stack_tried_g1_C.E := envG (pCall_ok stackSet_1_g1_ok (noCall_ok 26)) (envNil)
def stack_tried_g1_cuts : List (Pos × Cut) := []
noncomputable def stack_tried_g1_D : DefP TT := ⟨1, 4, [4, 0, 2, 3], 4, 34, [(3, 0)], stack_tried_i1_d1_dsp, stack_tried_i1_d2_dsp⟩
noncomputable def stack_tried_g1 (n : Nat) (x0 : List Bool) (x1 : Int) (x2 : Int) : Option (((List Bool × Unit) × (Int × Unit) × (Int × Unit) × Unit) × (List Bool × Int × Unit)) := topD Try.prog stack_tried_g1_C stack_tried_g1_cuts Try.f25 (bodyOf Try.f25) ⟨[(0, 47, .bool, true)], [], [], [], []⟩ [.fn 26 [] [.ptr 0 22 [.val (.list (.bool))], .ptr 0 2 [.val (.int .i64)], .ptr 0 3 [.val (.int .i64)]]] [.blk 22 [.val (.list (.bool))], .blk 2 [.val (.int .i64)], .blk 3 [.val (.int .i64)]] [.row 47 (.bool), .val (.int .i64)] stack_tried_g1_D n (((), ((x0, ()), (x1, ()), (x2, ()), ())), ())
theorem stack_tried_g1_eq (n : Nat) (x0 : List Bool) (x1 : Int) (x2 : Int) : stack_tried_g1 n x0 x1 x2 =
  obind (stackSet_1_g1 BIG x0 x1 x2) fun y1 => match y1.2 with
  | .inl z1 => (obind (stack_tried_i1_d1 (0 : Int)) fun y2 =>
   some (((y1.1.1.1, ()), (y1.1.2.1.1, ()), (y1.1.2.2.1.1, ()), ()), (z1.1, y2.1.1, ())))
  | .inr e1 => (obind (stack_tried_i1_d2 (0 : Int) e1.1) fun y3 =>
   some (((y1.1.1.1, ()), (y1.1.2.1.1, ()), (y1.1.2.2.1.1, ()), ()), (([] : List Bool), y3.1.1, ()))) := by kernel_rfl
noncomputable def stack_tried_g1_sp : GSpec TT := ⟨[.fn 26 [] [.ptr 0 22 [.val (.list (.bool))], .ptr 0 2 [.val (.int .i64)], .ptr 0 3 [.val (.int .i64)]]], [.blk 22 [.val (.list (.bool))], .blk 2 [.val (.int .i64)], .blk 3 [.val (.int .i64)]], [.row 47 (.bool), .val (.int .i64)], fun x => stack_tried_g1 BIG x.1.2.1.1 x.1.2.2.1.1 x.1.2.2.2.1.1⟩
theorem stack_tried_g1_ok : GOk TT Try.prog 25 stack_tried_g1_sp := gOkD_of (C := stack_tried_g1_C) (cuts := stack_tried_g1_cuts) (D := stack_tried_g1_D) (by kernel_rfl) stack_tried_g1_env Try.func25 (show Try.f25.body = some (bodyOf Try.f25) by kernel_rfl) (by kernel_rfl) (by kernel_rfl) (by kernel_rfl) stack_tried_i1_d1_dok stack_tried_i1_d2_dok fun x y h => ⟨BIG, h⟩
noncomputable def stackSet_C : Ctx TT := ⟨tyOf, [(25, stack_tried_g1_sp.toCall (noCall TT))], 0, [], layOf⟩
theorem stackSet_env : EnvOk TT Try.prog stackSet_C.E := envG (gCall_ok stack_tried_g1_ok (noCall_ok 25)) (envNil)
def stackSet_cuts : List (Pos × Cut) := []
noncomputable def stackSet (n : Nat) (x0 : List Bool) (x1 : Int) (x2 : Int) : Option (List Bool × Int) := topF TT Try.prog stackSet_C stackSet_cuts Try.f9 (bodyOf Try.f9) ⟨[], []⟩ [.val (.list (.bool)), .val (.int .i64), .val (.int .i64)] [.own 47 (.bool), .val (.int .i64)] n (x0, x1, x2)
theorem stackSet_eq (n : Nat) (x0 : List Bool) (x1 : Int) (x2 : Int) : stackSet n x0 x1 x2 =
  obind (stack_tried_g1 BIG x0 x1 x2) fun y1 =>
  some (y1.2.1, y1.2.2.1) := by kernel_rfl
noncomputable def stackSet_sp : FnSpec TT := ⟨[.val (.list (.bool)), .val (.int .i64), .val (.int .i64)], [.own 47 (.bool), .val (.int .i64)], fun x => stackSet BIG x.1 x.2.1 x.2.2⟩
theorem stackSet_ok : FnOk TT Try.prog 9 stackSet_sp := fnOk_of (C := stackSet_C) (by kernel_rfl) stackSet_env Try.func9 (show Try.f9.body = some (bodyOf Try.f9) by kernel_rfl) (by kernel_rfl) (by kernel_rfl) (cuts := stackSet_cuts) fun x y h => ⟨BIG, h⟩
noncomputable def stack_truths_part_g2_C : Ctx TT := ⟨tyOf, [], 0, [], layOf⟩
theorem stack_truths_part_g2_env : EnvOk TT Try.prog stack_truths_part_g2_C.E := envNil
def stack_truths_part_g2_cuts : List (Pos × Cut) := [([true], ⟨[0, 1, 2], [], false, []⟩), ([false, true, false, true], ⟨[0, 1, 2, 9], [], false, []⟩), ([true, true], ⟨[0, 1, 2], [], false, []⟩), ([false, true, true], ⟨[0, 1, 2, 21], [], false, []⟩)]
noncomputable def stack_truths_part_g2 (n : Nat) (x0 : List Bool) (x1 : Int) (x2 : Int) : Option ((Unit) × ((List Bool × Unit) ⊕ (Int × Unit))) := topP TT Try.prog stack_truths_part_g2_C stack_truths_part_g2_cuts Try.f28 (bodyOf Try.f28) ⟨[], [], [], [], []⟩ [.lpk (.bool) 0 0, .val (.int .i64), .val (.int .i64)] [] [.val (.list (.bool))] (.ifc 25 (.val (.int .i64))) n (x0, x1, x2, ())
noncomputable def stack_truths_part_g2_J1 (n : Nat) (s0l : List Bool) (s1 : Int) (s2 : Int) (s9 : Bool) : Option ((Unit) × ((List Bool × Unit) ⊕ (Int × Unit))) := cutP TT Try.prog stack_truths_part_g2_C stack_truths_part_g2_cuts Try.f28 (bodyOf Try.f28) ⟨[], [], [], [], []⟩ [] [.val (.list (.bool))] (.ifc 25 (.val (.int .i64))) n [false, true, false, true] ⟨[(0, .lptr (.bool) s0l 0 0), (1, .cell ⟨.int .i64, s1⟩), (2, .cell ⟨.int .i64, s2⟩), (9, .cell ⟨.bool, s9⟩)], []⟩
noncomputable def stack_truths_part_g2_J0 (n : Nat) (s0l : List Bool) (s1 : Int) (s2 : Int) : Option ((Unit) × ((List Bool × Unit) ⊕ (Int × Unit))) := cutP TT Try.prog stack_truths_part_g2_C stack_truths_part_g2_cuts Try.f28 (bodyOf Try.f28) ⟨[], [], [], [], []⟩ [] [.val (.list (.bool))] (.ifc 25 (.val (.int .i64))) n [true] ⟨[(0, .lptr (.bool) s0l 0 0), (1, .cell ⟨.int .i64, s1⟩), (2, .cell ⟨.int .i64, s2⟩)], []⟩
noncomputable def stack_truths_part_g2_J3 (n : Nat) (s0l : List Bool) (s1 : Int) (s2 : Int) (s21 : Bool) : Option ((Unit) × ((List Bool × Unit) ⊕ (Int × Unit))) := cutP TT Try.prog stack_truths_part_g2_C stack_truths_part_g2_cuts Try.f28 (bodyOf Try.f28) ⟨[], [], [], [], []⟩ [] [.val (.list (.bool))] (.ifc 25 (.val (.int .i64))) n [false, true, true] ⟨[(0, .lptr (.bool) s0l 0 0), (1, .cell ⟨.int .i64, s1⟩), (2, .cell ⟨.int .i64, s2⟩), (21, .cell ⟨.bool, s21⟩)], []⟩
noncomputable def stack_truths_part_g2_J2 (n : Nat) (s0l : List Bool) (s1 : Int) (s2 : Int) : Option ((Unit) × ((List Bool × Unit) ⊕ (Int × Unit))) := cutP TT Try.prog stack_truths_part_g2_C stack_truths_part_g2_cuts Try.f28 (bodyOf Try.f28) ⟨[], [], [], [], []⟩ [] [.val (.list (.bool))] (.ifc 25 (.val (.int .i64))) n [true, true] ⟨[(0, .lptr (.bool) s0l 0 0), (1, .cell ⟨.int .i64, s1⟩), (2, .cell ⟨.int .i64, s2⟩)], []⟩
theorem stack_truths_part_g2_eq (n : Nat) (x0 : List Bool) (x1 : Int) (x2 : Int) : stack_truths_part_g2 n x0 x1 x2 =
  forkB (x2 == (1 : Int))
  (stack_truths_part_g2_J1 n x0 x1 x2 (x2 == (1 : Int)))
  (forkB (x2 == (2 : Int))
   (stack_truths_part_g2_J1 n x0 x1 x2 (x2 == (2 : Int)))
   (forkB (x2 == (4 : Int))
    (stack_truths_part_g2_J1 n x0 x1 x2 (x2 == (4 : Int)))
    (stack_truths_part_g2_J1 n x0 x1 x2 (x2 == (8 : Int))))) := by kernel_rfl
theorem stack_truths_part_g2_J1_eq (n : Nat) (s0l : List Bool) (s1 : Int) (s2 : Int) (s9 : Bool) : stack_truths_part_g2_J1 (n + 1) s0l s1 s2 s9 =
  forkB s9
  (stack_truths_part_g2_J0 n s0l s1 s2)
  (some ((), .inr ((2 : Int), ()))) := by kernel_rfl
theorem stack_truths_part_g2_J0_eq (n : Nat) (s0l : List Bool) (s1 : Int) (s2 : Int) : stack_truths_part_g2_J0 (n + 1) s0l s1 s2 =
  forkB (decide (s1 < (-512 : Int)))
  (stack_truths_part_g2_J3 n s0l s1 s2 true)
  (stack_truths_part_g2_J3 n s0l s1 s2 (decide (s1 > (IntKind.i64.wrap (0 - s2))))) := by kernel_rfl
theorem stack_truths_part_g2_J3_eq (n : Nat) (s0l : List Bool) (s1 : Int) (s2 : Int) (s21 : Bool) : stack_truths_part_g2_J3 (n + 1) s0l s1 s2 s21 =
  forkB s21
  (some ((), .inr ((112 : Int), ())))
  (stack_truths_part_g2_J2 n s0l s1 s2) := by kernel_rfl
theorem stack_truths_part_g2_J2_eq (n : Nat) (s0l : List Bool) (s1 : Int) (s2 : Int) : stack_truths_part_g2_J2 (n + 1) s0l s1 s2 =
  if 512 ≤ s0l.length then (if 0 ≤ IntKind.i64.wrap ((512 : Int) + s1) ∧ IntKind.i64.wrap ((512 : Int) + s1) ≤ ((512 : Nat) : Int) ∧ ((512 : Nat) : Int) ≤ ((512 : Nat) : Int) then (if 0 ≤ (0 : Int) ∧ (0 : Int) ≤ s2 ∧ s2 ≤ (((List.take (((512 : Nat) : Int).toNat - (IntKind.i64.wrap ((512 : Int) + s1)).toNat) (List.drop ((IntKind.i64.wrap ((512 : Int) + s1)).toNat) s0l)).length : Nat) : Int) then (some ((), .inl (List.take (s2.toNat - 0) (List.drop 0 (List.take (((512 : Nat) : Int).toNat - (IntKind.i64.wrap ((512 : Int) + s1)).toNat) (List.drop ((IntKind.i64.wrap ((512 : Int) + s1)).toNat) s0l))), ()))) else none) else none) else none := by kernel_rfl
noncomputable def stack_truths_part_g2_sp : PSpec TT := ⟨[.lpk (.bool) 0 0, .val (.int .i64), .val (.int .i64)], [], [.val (.list (.bool))], .ifc 25 (.val (.int .i64)), fun x => stack_truths_part_g2 BIG x.1 x.2.1 x.2.2.1⟩
theorem stack_truths_part_g2_ok : POk TT Try.prog 28 stack_truths_part_g2_sp := pOk_of (C := stack_truths_part_g2_C) (cuts := stack_truths_part_g2_cuts) (by kernel_rfl) stack_truths_part_g2_env Try.func28 (show Try.f28.body = some (bodyOf Try.f28) by kernel_rfl) (by kernel_rfl) (by kernel_rfl) (by kernel_rfl) fun x y h => ⟨BIG, h⟩
noncomputable def stackRead_1_g1_C : Ctx TT := ⟨tyOf, [(27, stack_of_g1_sp.toCall (noCall TT)), (28, stack_truths_part_g2_sp.toCall (stack_truths_part_g1_sp.toCall (noCall TT)))], 3, [(1, 1)], layOf⟩
theorem stackRead_1_g1_env : EnvOk TT Try.prog stackRead_1_g1_C.E := envG (pCall_ok stack_of_g1_ok (noCall_ok 27)) (envG (pCall_ok stack_truths_part_g2_ok (pCall_ok stack_truths_part_g1_ok (noCall_ok 28))) (envNil))
def stackRead_1_g1_cuts : List (Pos × Cut) := [([false, true, false, true], ⟨[10, 11, 12], [], false, []⟩), ([true, true, false, false, true, false, true], ⟨[10, 11, 12], [], false, []⟩)]
noncomputable def stackRead_1_g1 (n : Nat) (x0 : List Bool) (x1 : Int) (x2 : Int) : Option (((List Bool × Unit) × (Int × Unit) × (Int × Unit) × Unit) × ((Bool × Unit) ⊕ (Int × Unit))) := topP TT Try.prog stackRead_1_g1_C stackRead_1_g1_cuts Try.f32 (bodyOf Try.f32) ⟨[], [], [], [], []⟩ [.ptr 0 22 [.val (.list (.bool))], .ptr 0 2 [.val (.int .i64)], .ptr 0 3 [.val (.int .i64)]] [.blk 22 [.val (.list (.bool))], .blk 2 [.val (.int .i64)], .blk 3 [.val (.int .i64)]] [.val (.bool)] (.ifc 25 (.val (.int .i64))) n ((x0, ()), (x1, ()), (x2, ()), ())
noncomputable def stackRead_1_g1_L0 (n : Nat) (s10 : List Bool) (s11 : Int) (s12 : Int) (b0_0 : List Bool) (b1_0 : Int) (b2_0 : Int) : Option (((List Bool × Unit) × (Int × Unit) × (Int × Unit) × Unit) × ((Bool × Unit) ⊕ (Int × Unit))) := cutP TT Try.prog stackRead_1_g1_C stackRead_1_g1_cuts Try.f32 (bodyOf Try.f32) ⟨[], [], [], [], []⟩ [.blk 22 [.val (.list (.bool))], .blk 2 [.val (.int .i64)], .blk 3 [.val (.int .i64)]] [.val (.bool)] (.ifc 25 (.val (.int .i64))) n [false, true, false, true] ⟨[(10, .cell ⟨.list (.bool), s10⟩), (11, .cell ⟨.int .i64, s11⟩), (12, .cell ⟨.int .i64, s12⟩)], [.blk 22 [.cell ⟨.list (.bool), b0_0⟩], .blk 2 [.cell ⟨.int .i64, b1_0⟩], .blk 3 [.cell ⟨.int .i64, b2_0⟩]]⟩
noncomputable def stackRead_1_g1_J1 (n : Nat) (s10 : List Bool) (s11 : Int) (s12 : Int) (b0_0 : List Bool) (b1_0 : Int) (b2_0 : Int) : Option (((List Bool × Unit) × (Int × Unit) × (Int × Unit) × Unit) × ((Bool × Unit) ⊕ (Int × Unit))) := cutP TT Try.prog stackRead_1_g1_C stackRead_1_g1_cuts Try.f32 (bodyOf Try.f32) ⟨[], [], [], [], []⟩ [.blk 22 [.val (.list (.bool))], .blk 2 [.val (.int .i64)], .blk 3 [.val (.int .i64)]] [.val (.bool)] (.ifc 25 (.val (.int .i64))) n [true, true, false, false, true, false, true] ⟨[(10, .cell ⟨.list (.bool), s10⟩), (11, .cell ⟨.int .i64, s11⟩), (12, .cell ⟨.int .i64, s12⟩)], [.blk 22 [.cell ⟨.list (.bool), b0_0⟩], .blk 2 [.cell ⟨.int .i64, b1_0⟩], .blk 3 [.cell ⟨.int .i64, b2_0⟩]]⟩
theorem stackRead_1_g1_eq (n : Nat) (x0 : List Bool) (x1 : Int) (x2 : Int) : stackRead_1_g1 n x0 x1 x2 =
  obind (stack_of_g1 BIG x0) fun y1 => match y1.2 with
  | .inl z1 => (obind (stack_truths_part_g2 BIG z1.1 x1 x2) fun y2 => match y2.2 with
   | .inl z2 => (stackRead_1_g1_L0 n z2.1 ((z2.1.length : Nat) : Int) (0 : Int) x0 x1 x2)
   | .inr e2 => (some (((x0, ()), (x1, ()), (x2, ()), ()), .inr (e2.1, ()))))
  | .inr e1 => (some (((x0, ()), (x1, ()), (x2, ()), ()), .inr (e1.1, ()))) := by kernel_rfl
theorem stackRead_1_g1_L0_eq (n : Nat) (s10 : List Bool) (s11 : Int) (s12 : Int) (b0_0 : List Bool) (b1_0 : Int) (b2_0 : Int) : stackRead_1_g1_L0 (n + 1) s10 s11 s12 b0_0 b1_0 b2_0 =
  forkB (decide (s12 < s11))
  (if 0 ≤ s12 ∧ s12 < ((s10.length : Nat) : Int) then (forkB (!(s10.getD s12.toNat false))
   (some (((b0_0, ()), (b1_0, ()), (b2_0, ()), ()), .inr ((110 : Int), ())))
   (stackRead_1_g1_J1 n s10 s11 s12 b0_0 b1_0 b2_0)) else none)
  (some (((b0_0, ()), (b1_0, ()), (b2_0, ()), ()), .inl (true, ()))) := by kernel_rfl
theorem stackRead_1_g1_J1_eq (n : Nat) (s10 : List Bool) (s11 : Int) (s12 : Int) (b0_0 : List Bool) (b1_0 : Int) (b2_0 : Int) : stackRead_1_g1_J1 (n + 1) s10 s11 s12 b0_0 b1_0 b2_0 =
  stackRead_1_g1_L0 n s10 s11 (IntKind.i64.wrap (s12 + (1 : Int))) b0_0 b1_0 b2_0 := by kernel_rfl
noncomputable def stackRead_1_g1_sp : PSpec TT := ⟨[.ptr 0 22 [.val (.list (.bool))], .ptr 0 2 [.val (.int .i64)], .ptr 0 3 [.val (.int .i64)]], [.blk 22 [.val (.list (.bool))], .blk 2 [.val (.int .i64)], .blk 3 [.val (.int .i64)]], [.val (.bool)], .ifc 25 (.val (.int .i64)), fun x => stackRead_1_g1 BIG x.1.1 x.2.1.1 x.2.2.1.1⟩
theorem stackRead_1_g1_ok : POk TT Try.prog 32 stackRead_1_g1_sp := pOk_of (C := stackRead_1_g1_C) (cuts := stackRead_1_g1_cuts) (by kernel_rfl) stackRead_1_g1_env Try.func32 (show Try.f32.body = some (bodyOf Try.f32) by kernel_rfl) (by kernel_rfl) (by kernel_rfl) (by kernel_rfl) fun x y h => ⟨BIG, h⟩
noncomputable def stack_tried_i3_d1_C : Ctx TT := ⟨tyOf, [], 1, [], layOf⟩
theorem stack_tried_i3_d1_env : EnvOk TT Try.prog stack_tried_i3_d1_C.E := envNil
noncomputable def stack_tried_i3_d1 (x0 : Int) : Option ((Int × Unit) × Unit) := topDf Try.prog stack_tried_i3_d1_C Try.f35 (bodyOf Try.f35) [.ptr 0 25 [.val (.int .i64)]] (.rw 1) [.blk 25 [.val (.int .i64)]] ((x0, ()), (), ())
theorem stack_tried_i3_d1_eq (x0 : Int) : stack_tried_i3_d1 x0 =
  some ((x0, ()), ()) := by kernel_rfl
noncomputable def stack_tried_i3_d1_dsp : DSpec TT := ⟨[.ptr 0 25 [.val (.int .i64)]], .rw 1, [.blk 25 [.val (.int .i64)]], fun x => stack_tried_i3_d1 x.1.1⟩
theorem stack_tried_i3_d1_dok : DOk TT Try.prog 35 stack_tried_i3_d1_dsp := dOk_of (C := stack_tried_i3_d1_C) (by kernel_rfl) stack_tried_i3_d1_env Try.func35 (show Try.f35.body = some (bodyOf Try.f35) by kernel_rfl) (by kernel_rfl) (by kernel_rfl) (by kernel_rfl) (by kernel_rfl) fun x y h => h
noncomputable def stack_tried_i3_d2_C : Ctx TT := ⟨tyOf, [], 1, [], layOf⟩
theorem stack_tried_i3_d2_env : EnvOk TT Try.prog stack_tried_i3_d2_C.E := envNil
noncomputable def stack_tried_i3_d2 (x0 : Int) (x1 : Int) : Option ((Int × Unit) × Unit) := topDf Try.prog stack_tried_i3_d2_C Try.f35 (bodyOf Try.f35) [.ptr 0 25 [.val (.int .i64)]] (.ifc 25 (.val (.int .i64))) [.blk 25 [.val (.int .i64)]] ((x0, ()), x1, ())
theorem stack_tried_i3_d2_eq (x0 : Int) (x1 : Int) : stack_tried_i3_d2 x0 x1 =
  some ((x1, ()), ()) := by kernel_rfl
noncomputable def stack_tried_i3_d2_dsp : DSpec TT := ⟨[.ptr 0 25 [.val (.int .i64)]], .ifc 25 (.val (.int .i64)), [.blk 25 [.val (.int .i64)]], fun x => stack_tried_i3_d2 x.1.1 x.2.1⟩
theorem stack_tried_i3_d2_dok : DOk TT Try.prog 35 stack_tried_i3_d2_dsp := dOk_of (C := stack_tried_i3_d2_C) (by kernel_rfl) stack_tried_i3_d2_env Try.func35 (show Try.f35.body = some (bodyOf Try.f35) by kernel_rfl) (by kernel_rfl) (by kernel_rfl) (by kernel_rfl) (by kernel_rfl) fun x y h => h
noncomputable def stack_tried_i2_g1_C : Ctx TT := ⟨tyOf, [(32, stackRead_1_g1_sp.toCall (noCall TT))], 3, [], layOf⟩
theorem stack_tried_i2_g1_env : EnvOk TT Try.prog stack_tried_i2_g1_C.E := envG (pCall_ok stackRead_1_g1_ok (noCall_ok 32)) (envNil)
def stack_tried_i2_g1_cuts : List (Pos × Cut) := []
noncomputable def stack_tried_i2_g1_D : DefP TT := ⟨1, 4, [4, 0, 2, 3], 4, 35, [(3, 0)], stack_tried_i3_d1_dsp, stack_tried_i3_d2_dsp⟩
noncomputable def stack_tried_i2_g1 (n : Nat) (x0 : List Bool) (x1 : Int) (x2 : Int) : Option (((List Bool × Unit) × (Int × Unit) × (Int × Unit) × Unit) × (Bool × Int × Unit)) := topD Try.prog stack_tried_i2_g1_C stack_tried_i2_g1_cuts Try.f31 (bodyOf Try.f31) ⟨[], [], [], [], []⟩ [.fn 32 [] [.ptr 0 22 [.val (.list (.bool))], .ptr 0 2 [.val (.int .i64)], .ptr 0 3 [.val (.int .i64)]]] [.blk 22 [.val (.list (.bool))], .blk 2 [.val (.int .i64)], .blk 3 [.val (.int .i64)]] [.val (.bool), .val (.int .i64)] stack_tried_i2_g1_D n (((), ((x0, ()), (x1, ()), (x2, ()), ())), ())
theorem stack_tried_i2_g1_eq (n : Nat) (x0 : List Bool) (x1 : Int) (x2 : Int) : stack_tried_i2_g1 n x0 x1 x2 =
  obind (stackRead_1_g1 BIG x0 x1 x2) fun y1 => match y1.2 with
  | .inl z1 => (obind (stack_tried_i3_d1 (0 : Int)) fun y2 =>
   some (((y1.1.1.1, ()), (y1.1.2.1.1, ()), (y1.1.2.2.1.1, ()), ()), (z1.1, y2.1.1, ())))
  | .inr e1 => (obind (stack_tried_i3_d2 (0 : Int) e1.1) fun y3 =>
   some (((y1.1.1.1, ()), (y1.1.2.1.1, ()), (y1.1.2.2.1.1, ()), ()), (false, y3.1.1, ()))) := by kernel_rfl
noncomputable def stack_tried_i2_g1_sp : GSpec TT := ⟨[.fn 32 [] [.ptr 0 22 [.val (.list (.bool))], .ptr 0 2 [.val (.int .i64)], .ptr 0 3 [.val (.int .i64)]]], [.blk 22 [.val (.list (.bool))], .blk 2 [.val (.int .i64)], .blk 3 [.val (.int .i64)]], [.val (.bool), .val (.int .i64)], fun x => stack_tried_i2_g1 BIG x.1.2.1.1 x.1.2.2.1.1 x.1.2.2.2.1.1⟩
theorem stack_tried_i2_g1_ok : GOk TT Try.prog 31 stack_tried_i2_g1_sp := gOkD_of (C := stack_tried_i2_g1_C) (cuts := stack_tried_i2_g1_cuts) (D := stack_tried_i2_g1_D) (by kernel_rfl) stack_tried_i2_g1_env Try.func31 (show Try.f31.body = some (bodyOf Try.f31) by kernel_rfl) (by kernel_rfl) (by kernel_rfl) (by kernel_rfl) stack_tried_i3_d1_dok stack_tried_i3_d2_dok fun x y h => ⟨BIG, h⟩
noncomputable def stackRead_C : Ctx TT := ⟨tyOf, [(31, stack_tried_i2_g1_sp.toCall (noCall TT))], 0, [], layOf⟩
theorem stackRead_env : EnvOk TT Try.prog stackRead_C.E := envG (gCall_ok stack_tried_i2_g1_ok (noCall_ok 31)) (envNil)
def stackRead_cuts : List (Pos × Cut) := []
noncomputable def stackRead (n : Nat) (x0 : List Bool) (x1 : Int) (x2 : Int) : Option (Int) := topF TT Try.prog stackRead_C stackRead_cuts Try.f13 (bodyOf Try.f13) ⟨[], []⟩ [.val (.list (.bool)), .val (.int .i64), .val (.int .i64)] [.val (.int .i64)] n (x0, x1, x2)
theorem stackRead_eq (n : Nat) (x0 : List Bool) (x1 : Int) (x2 : Int) : stackRead n x0 x1 x2 =
  obind (stack_tried_i2_g1 BIG x0 x1 x2) fun y1 =>
  some y1.2.2.1 := by kernel_rfl
noncomputable def stackRead_sp : FnSpec TT := ⟨[.val (.list (.bool)), .val (.int .i64), .val (.int .i64)], [.val (.int .i64)], fun x => stackRead BIG x.1 x.2.1 x.2.2⟩
theorem stackRead_ok : FnOk TT Try.prog 13 stackRead_sp := fnOk_of (C := stackRead_C) (by kernel_rfl) stackRead_env Try.func13 (show Try.f13.body = some (bodyOf Try.f13) by kernel_rfl) (by kernel_rfl) (by kernel_rfl) (cuts := stackRead_cuts) fun x y h => ⟨BIG, h⟩
noncomputable def stackWithin_1_g1_C : Ctx TT := ⟨tyOf, [(27, stack_of_g1_sp.toCall (noCall TT))], 2, [(1, 1)], layOf⟩
theorem stackWithin_1_g1_env : EnvOk TT Try.prog stackWithin_1_g1_C.E := envG (pCall_ok stack_of_g1_ok (noCall_ok 27)) (envNil)
def stackWithin_1_g1_cuts : List (Pos × Cut) := [([false, true, false, true, true], ⟨[3, 4, 10], [], false, []⟩), ([true, false, false, true, true, false, false, true, false, true, true], ⟨[3, 4, 10, 25], [], false, []⟩)]
noncomputable def stackWithin_1_g1 (n : Nat) (x0 : List Bool) (x1 : List Bool) : Option (((List Bool × Unit) × (List Bool × Unit) × Unit) × ((Bool × Unit) ⊕ (Int × Unit))) := topP TT Try.prog stackWithin_1_g1_C stackWithin_1_g1_cuts Try.f33 (bodyOf Try.f33) ⟨[], [], [], [], []⟩ [.ptr 0 22 [.val (.list (.bool))], .ptr 0 22 [.val (.list (.bool))]] [.blk 22 [.val (.list (.bool))], .blk 22 [.val (.list (.bool))]] [.val (.bool)] (.ifc 25 (.val (.int .i64))) n ((x0, ()), (x1, ()), ())
noncomputable def stackWithin_1_g1_L0 (n : Nat) (s3l : List Bool) (s4l : List Bool) (s10 : Int) (b0_0 : List Bool) (b1_0 : List Bool) : Option (((List Bool × Unit) × (List Bool × Unit) × Unit) × ((Bool × Unit) ⊕ (Int × Unit))) := cutP TT Try.prog stackWithin_1_g1_C stackWithin_1_g1_cuts Try.f33 (bodyOf Try.f33) ⟨[], [], [], [], []⟩ [.blk 22 [.val (.list (.bool))], .blk 22 [.val (.list (.bool))]] [.val (.bool)] (.ifc 25 (.val (.int .i64))) n [false, true, false, true, true] ⟨[(3, .lptr (.bool) s3l 0 0), (4, .lptr (.bool) s4l 0 0), (10, .cell ⟨.int .i64, s10⟩)], [.blk 22 [.cell ⟨.list (.bool), b0_0⟩], .blk 22 [.cell ⟨.list (.bool), b1_0⟩]]⟩
noncomputable def stackWithin_1_g1_J1 (n : Nat) (s3l : List Bool) (s4l : List Bool) (s10 : Int) (s25 : Bool) (b0_0 : List Bool) (b1_0 : List Bool) : Option (((List Bool × Unit) × (List Bool × Unit) × Unit) × ((Bool × Unit) ⊕ (Int × Unit))) := cutP TT Try.prog stackWithin_1_g1_C stackWithin_1_g1_cuts Try.f33 (bodyOf Try.f33) ⟨[], [], [], [], []⟩ [.blk 22 [.val (.list (.bool))], .blk 22 [.val (.list (.bool))]] [.val (.bool)] (.ifc 25 (.val (.int .i64))) n [true, false, false, true, true, false, false, true, false, true, true] ⟨[(3, .lptr (.bool) s3l 0 0), (4, .lptr (.bool) s4l 0 0), (10, .cell ⟨.int .i64, s10⟩), (25, .cell ⟨.bool, s25⟩)], [.blk 22 [.cell ⟨.list (.bool), b0_0⟩], .blk 22 [.cell ⟨.list (.bool), b1_0⟩]]⟩
theorem stackWithin_1_g1_eq (n : Nat) (x0 : List Bool) (x1 : List Bool) : stackWithin_1_g1 n x0 x1 =
  obind (stack_of_g1 BIG x0) fun y1 => match y1.2 with
  | .inl z1 => (obind (stack_of_g1 BIG x1) fun y2 => match y2.2 with
   | .inl z2 => (stackWithin_1_g1_L0 n z1.1 z2.1 (0 : Int) x0 x1)
   | .inr e2 => (some (((x0, ()), (x1, ()), ()), .inr (e2.1, ()))))
  | .inr e1 => (some (((x0, ()), (x1, ()), ()), .inr (e1.1, ()))) := by kernel_rfl
theorem stackWithin_1_g1_L0_eq (n : Nat) (s3l : List Bool) (s4l : List Bool) (s10 : Int) (b0_0 : List Bool) (b1_0 : List Bool) : stackWithin_1_g1_L0 (n + 1) s3l s4l s10 b0_0 b1_0 =
  forkB (decide (s10 < (512 : Int)))
  (if 0 ≤ s10 ∧ s10 < ((512 : Nat) : Int) then (if 0 + s10.toNat < s4l.length then (forkB (s4l.getD (0 + s10.toNat) false)
   (if 0 ≤ s10 ∧ s10 < ((512 : Nat) : Int) then (if 0 + s10.toNat < s3l.length then (stackWithin_1_g1_J1 n s3l s4l s10 (!(s3l.getD (0 + s10.toNat) false)) b0_0 b1_0) else none) else none)
   (stackWithin_1_g1_J1 n s3l s4l s10 false b0_0 b1_0)) else none) else none)
  (some (((b0_0, ()), (b1_0, ()), ()), .inl (true, ()))) := by kernel_rfl
theorem stackWithin_1_g1_J1_eq (n : Nat) (s3l : List Bool) (s4l : List Bool) (s10 : Int) (s25 : Bool) (b0_0 : List Bool) (b1_0 : List Bool) : stackWithin_1_g1_J1 (n + 1) s3l s4l s10 s25 b0_0 b1_0 =
  forkB s25
  (some (((b0_0, ()), (b1_0, ()), ()), .inl (false, ())))
  (stackWithin_1_g1_L0 n s3l s4l (IntKind.i64.wrap (s10 + (1 : Int))) b0_0 b1_0) := by kernel_rfl
noncomputable def stackWithin_1_g1_sp : PSpec TT := ⟨[.ptr 0 22 [.val (.list (.bool))], .ptr 0 22 [.val (.list (.bool))]], [.blk 22 [.val (.list (.bool))], .blk 22 [.val (.list (.bool))]], [.val (.bool)], .ifc 25 (.val (.int .i64)), fun x => stackWithin_1_g1 BIG x.1.1 x.2.1.1⟩
theorem stackWithin_1_g1_ok : POk TT Try.prog 33 stackWithin_1_g1_sp := pOk_of (C := stackWithin_1_g1_C) (cuts := stackWithin_1_g1_cuts) (by kernel_rfl) stackWithin_1_g1_env Try.func33 (show Try.f33.body = some (bodyOf Try.f33) by kernel_rfl) (by kernel_rfl) (by kernel_rfl) (by kernel_rfl) fun x y h => ⟨BIG, h⟩
noncomputable def stack_tried_i2_g2_C : Ctx TT := ⟨tyOf, [(33, stackWithin_1_g1_sp.toCall (noCall TT))], 2, [], layOf⟩
theorem stack_tried_i2_g2_env : EnvOk TT Try.prog stack_tried_i2_g2_C.E := envG (pCall_ok stackWithin_1_g1_ok (noCall_ok 33)) (envNil)
def stack_tried_i2_g2_cuts : List (Pos × Cut) := []
noncomputable def stack_tried_i2_g2_D : DefP TT := ⟨1, 4, [4, 0, 2, 3], 3, 35, [(2, 0)], stack_tried_i3_d1_dsp, stack_tried_i3_d2_dsp⟩
noncomputable def stack_tried_i2_g2 (n : Nat) (x0 : List Bool) (x1 : List Bool) : Option (((List Bool × Unit) × (List Bool × Unit) × Unit) × (Bool × Int × Unit)) := topD Try.prog stack_tried_i2_g2_C stack_tried_i2_g2_cuts Try.f31 (bodyOf Try.f31) ⟨[], [], [], [], []⟩ [.fn 33 [] [.ptr 0 22 [.val (.list (.bool))], .ptr 0 22 [.val (.list (.bool))]]] [.blk 22 [.val (.list (.bool))], .blk 22 [.val (.list (.bool))]] [.val (.bool), .val (.int .i64)] stack_tried_i2_g2_D n (((), ((x0, ()), (x1, ()), ())), ())
theorem stack_tried_i2_g2_eq (n : Nat) (x0 : List Bool) (x1 : List Bool) : stack_tried_i2_g2 n x0 x1 =
  obind (stackWithin_1_g1 BIG x0 x1) fun y1 => match y1.2 with
  | .inl z1 => (obind (stack_tried_i3_d1 (0 : Int)) fun y2 =>
   some (((y1.1.1.1, ()), (y1.1.2.1.1, ()), ()), (z1.1, y2.1.1, ())))
  | .inr e1 => (obind (stack_tried_i3_d2 (0 : Int) e1.1) fun y3 =>
   some (((y1.1.1.1, ()), (y1.1.2.1.1, ()), ()), (false, y3.1.1, ()))) := by kernel_rfl
noncomputable def stack_tried_i2_g2_sp : GSpec TT := ⟨[.fn 33 [] [.ptr 0 22 [.val (.list (.bool))], .ptr 0 22 [.val (.list (.bool))]]], [.blk 22 [.val (.list (.bool))], .blk 22 [.val (.list (.bool))]], [.val (.bool), .val (.int .i64)], fun x => stack_tried_i2_g2 BIG x.1.2.1.1 x.1.2.2.1.1⟩
theorem stack_tried_i2_g2_ok : GOk TT Try.prog 31 stack_tried_i2_g2_sp := gOkD_of (C := stack_tried_i2_g2_C) (cuts := stack_tried_i2_g2_cuts) (D := stack_tried_i2_g2_D) (by kernel_rfl) stack_tried_i2_g2_env Try.func31 (show Try.f31.body = some (bodyOf Try.f31) by kernel_rfl) (by kernel_rfl) (by kernel_rfl) (by kernel_rfl) stack_tried_i3_d1_dok stack_tried_i3_d2_dok fun x y h => ⟨BIG, h⟩
noncomputable def stackWithin_C : Ctx TT := ⟨tyOf, [(31, stack_tried_i2_g2_sp.toCall (stack_tried_i2_g1_sp.toCall (noCall TT)))], 0, [], layOf⟩
theorem stackWithin_env : EnvOk TT Try.prog stackWithin_C.E := envG (gCall_ok stack_tried_i2_g2_ok (gCall_ok stack_tried_i2_g1_ok (noCall_ok 31))) (envNil)
def stackWithin_cuts : List (Pos × Cut) := []
noncomputable def stackWithin (n : Nat) (x0 : List Bool) (x1 : List Bool) : Option (Bool) := topF TT Try.prog stackWithin_C stackWithin_cuts Try.f15 (bodyOf Try.f15) ⟨[], []⟩ [.val (.list (.bool)), .val (.list (.bool))] [.val (.bool)] n (x0, x1)
theorem stackWithin_eq (n : Nat) (x0 : List Bool) (x1 : List Bool) : stackWithin n x0 x1 =
  obind (stack_tried_i2_g2 BIG x0 x1) fun y1 =>
  some y1.2.1 := by kernel_rfl
noncomputable def stackWithin_sp : FnSpec TT := ⟨[.val (.list (.bool)), .val (.list (.bool))], [.val (.bool)], fun x => stackWithin BIG x.1 x.2⟩
theorem stackWithin_ok : FnOk TT Try.prog 15 stackWithin_sp := fnOk_of (C := stackWithin_C) (by kernel_rfl) stackWithin_env Try.func15 (show Try.f15.body = some (bodyOf Try.f15) by kernel_rfl) (by kernel_rfl) (by kernel_rfl) (cuts := stackWithin_cuts) fun x y h => ⟨BIG, h⟩
noncomputable def stackJoin_1_g1_C : Ctx TT := ⟨tyOf, [(27, stack_of_g1_sp.toCall (noCall TT))], 2, [(1, 1)], layOf⟩
theorem stackJoin_1_g1_env : EnvOk TT Try.prog stackJoin_1_g1_C.E := envG (pCall_ok stack_of_g1_ok (noCall_ok 27)) (envNil)
def stackJoin_1_g1_cuts : List (Pos × Cut) := [([false, true, false, true, true], ⟨[3, 4, 12], [], false, []⟩), ([true, true, false, false, true, false, true, true], ⟨[3, 4, 12], [], false, []⟩)]
noncomputable def stackJoin_1_g1 (n : Nat) (x0 : List Bool) (x1 : List Bool) : Option (((List Bool × Unit) × (List Bool × Unit) × Unit) × ((List Bool × Unit) ⊕ (Int × Unit))) := topP TT Try.prog stackJoin_1_g1_C stackJoin_1_g1_cuts Try.f30 (bodyOf Try.f30) ⟨[], [], [], [], [0]⟩ [.ptr 0 22 [.val (.list (.bool))], .ptr 0 22 [.val (.list (.bool))]] [.blk 22 [.val (.list (.bool))], .blk 22 [.val (.list (.bool))]] [.row 47 (.bool)] (.ifc 25 (.val (.int .i64))) n ((x0, ()), (x1, ()), ())
noncomputable def stackJoin_1_g1_L0 (n : Nat) (s4l : List Bool) (s12 : Int) (b0_0 : List Bool) (b1_0 : List Bool) (b2_0l : List Bool) : Option (((List Bool × Unit) × (List Bool × Unit) × Unit) × ((List Bool × Unit) ⊕ (Int × Unit))) := cutP TT Try.prog stackJoin_1_g1_C stackJoin_1_g1_cuts Try.f30 (bodyOf Try.f30) ⟨[], [], [], [], [0]⟩ [.blk 22 [.val (.list (.bool))], .blk 22 [.val (.list (.bool))]] [.row 47 (.bool)] (.ifc 25 (.val (.int .i64))) n [false, true, false, true, true] ⟨[(3, .ptr 2 0), (4, .lptr (.bool) s4l 0 0), (12, .cell ⟨.int .i64, s12⟩)], [.blk 22 [.cell ⟨.list (.bool), b0_0⟩], .blk 22 [.cell ⟨.list (.bool), b1_0⟩], .blk 47 [.arr (.bool) 512 b2_0l]]⟩
noncomputable def stackJoin_1_g1_J1 (n : Nat) (s4l : List Bool) (s12 : Int) (b0_0 : List Bool) (b1_0 : List Bool) (b2_0l : List Bool) : Option (((List Bool × Unit) × (List Bool × Unit) × Unit) × ((List Bool × Unit) ⊕ (Int × Unit))) := cutP TT Try.prog stackJoin_1_g1_C stackJoin_1_g1_cuts Try.f30 (bodyOf Try.f30) ⟨[], [], [], [], [0]⟩ [.blk 22 [.val (.list (.bool))], .blk 22 [.val (.list (.bool))]] [.row 47 (.bool)] (.ifc 25 (.val (.int .i64))) n [true, true, false, false, true, false, true, true] ⟨[(3, .ptr 2 0), (4, .lptr (.bool) s4l 0 0), (12, .cell ⟨.int .i64, s12⟩)], [.blk 22 [.cell ⟨.list (.bool), b0_0⟩], .blk 22 [.cell ⟨.list (.bool), b1_0⟩], .blk 47 [.arr (.bool) 512 b2_0l]]⟩
theorem stackJoin_1_g1_eq (n : Nat) (x0 : List Bool) (x1 : List Bool) : stackJoin_1_g1 n x0 x1 =
  obind (stack_of_g1 BIG x0) fun y1 => match y1.2 with
  | .inl z1 => (if 512 ≤ z1.1.length then (obind (stack_of_g1 BIG x1) fun y2 => match y2.2 with
   | .inl z2 => (stackJoin_1_g1_L0 n z2.1 (0 : Int) x0 x1 (List.take 512 (List.drop 0 z1.1)))
   | .inr e2 => (some (((x0, ()), (x1, ()), ()), .inr (e2.1, ())))) else none)
  | .inr e1 => (some (((x0, ()), (x1, ()), ()), .inr (e1.1, ()))) := by kernel_rfl
theorem stackJoin_1_g1_L0_eq (n : Nat) (s4l : List Bool) (s12 : Int) (b0_0 : List Bool) (b1_0 : List Bool) (b2_0l : List Bool) : stackJoin_1_g1_L0 (n + 1) s4l s12 b0_0 b1_0 b2_0l =
  forkB (decide (s12 < (512 : Int)))
  (if 0 ≤ s12 ∧ s12 < ((512 : Nat) : Int) then (forkB (b2_0l.getD s12.toNat false)
   (if 0 ≤ s12 ∧ s12 < ((512 : Nat) : Int) then (if 0 + s12.toNat < s4l.length then (if 0 ≤ s12 ∧ s12 < ((512 : Nat) : Int) then (stackJoin_1_g1_J1 n s4l s12 b0_0 b1_0 (b2_0l.set s12.toNat (s4l.getD (0 + s12.toNat) false))) else none) else none) else none)
   (if 0 ≤ s12 ∧ s12 < ((512 : Nat) : Int) then (stackJoin_1_g1_J1 n s4l s12 b0_0 b1_0 (b2_0l.set s12.toNat false)) else none)) else none)
  (some (((b0_0, ()), (b1_0, ()), ()), .inl (b2_0l, ()))) := by kernel_rfl
theorem stackJoin_1_g1_J1_eq (n : Nat) (s4l : List Bool) (s12 : Int) (b0_0 : List Bool) (b1_0 : List Bool) (b2_0l : List Bool) : stackJoin_1_g1_J1 (n + 1) s4l s12 b0_0 b1_0 b2_0l =
  stackJoin_1_g1_L0 n s4l (IntKind.i64.wrap (s12 + (1 : Int))) b0_0 b1_0 b2_0l := by kernel_rfl
noncomputable def stackJoin_1_g1_sp : PSpec TT := ⟨[.ptr 0 22 [.val (.list (.bool))], .ptr 0 22 [.val (.list (.bool))]], [.blk 22 [.val (.list (.bool))], .blk 22 [.val (.list (.bool))]], [.row 47 (.bool)], .ifc 25 (.val (.int .i64)), fun x => stackJoin_1_g1 BIG x.1.1 x.2.1.1⟩
theorem stackJoin_1_g1_ok : POk TT Try.prog 30 stackJoin_1_g1_sp := pOk_of (C := stackJoin_1_g1_C) (cuts := stackJoin_1_g1_cuts) (by kernel_rfl) stackJoin_1_g1_env Try.func30 (show Try.f30.body = some (bodyOf Try.f30) by kernel_rfl) (by kernel_rfl) (by kernel_rfl) (by kernel_rfl) fun x y h => ⟨BIG, h⟩
noncomputable def stack_tried_g2_C : Ctx TT := ⟨tyOf, [(30, stackJoin_1_g1_sp.toCall (noCall TT))], 2, [], layOf⟩
theorem stack_tried_g2_env : EnvOk TT Try.prog stack_tried_g2_C.E := envG (pCall_ok stackJoin_1_g1_ok (noCall_ok 30)) (envNil)
def stack_tried_g2_cuts : List (Pos × Cut) := []
noncomputable def stack_tried_g2_D : DefP TT := ⟨1, 4, [4, 0, 2, 3], 3, 34, [(2, 0)], stack_tried_i1_d1_dsp, stack_tried_i1_d2_dsp⟩
noncomputable def stack_tried_g2 (n : Nat) (x0 : List Bool) (x1 : List Bool) : Option (((List Bool × Unit) × (List Bool × Unit) × Unit) × (List Bool × Int × Unit)) := topD Try.prog stack_tried_g2_C stack_tried_g2_cuts Try.f25 (bodyOf Try.f25) ⟨[(0, 47, .bool, true)], [], [], [], []⟩ [.fn 30 [] [.ptr 0 22 [.val (.list (.bool))], .ptr 0 22 [.val (.list (.bool))]]] [.blk 22 [.val (.list (.bool))], .blk 22 [.val (.list (.bool))]] [.row 47 (.bool), .val (.int .i64)] stack_tried_g2_D n (((), ((x0, ()), (x1, ()), ())), ())
theorem stack_tried_g2_eq (n : Nat) (x0 : List Bool) (x1 : List Bool) : stack_tried_g2 n x0 x1 =
  obind (stackJoin_1_g1 BIG x0 x1) fun y1 => match y1.2 with
  | .inl z1 => (obind (stack_tried_i1_d1 (0 : Int)) fun y2 =>
   some (((y1.1.1.1, ()), (y1.1.2.1.1, ()), ()), (z1.1, y2.1.1, ())))
  | .inr e1 => (obind (stack_tried_i1_d2 (0 : Int) e1.1) fun y3 =>
   some (((y1.1.1.1, ()), (y1.1.2.1.1, ()), ()), (([] : List Bool), y3.1.1, ()))) := by kernel_rfl
noncomputable def stack_tried_g2_sp : GSpec TT := ⟨[.fn 30 [] [.ptr 0 22 [.val (.list (.bool))], .ptr 0 22 [.val (.list (.bool))]]], [.blk 22 [.val (.list (.bool))], .blk 22 [.val (.list (.bool))]], [.row 47 (.bool), .val (.int .i64)], fun x => stack_tried_g2 BIG x.1.2.1.1 x.1.2.2.1.1⟩
theorem stack_tried_g2_ok : GOk TT Try.prog 25 stack_tried_g2_sp := gOkD_of (C := stack_tried_g2_C) (cuts := stack_tried_g2_cuts) (D := stack_tried_g2_D) (by kernel_rfl) stack_tried_g2_env Try.func25 (show Try.f25.body = some (bodyOf Try.f25) by kernel_rfl) (by kernel_rfl) (by kernel_rfl) (by kernel_rfl) stack_tried_i1_d1_dok stack_tried_i1_d2_dok fun x y h => ⟨BIG, h⟩
noncomputable def stackJoin_C : Ctx TT := ⟨tyOf, [(25, stack_tried_g2_sp.toCall (stack_tried_g1_sp.toCall (noCall TT)))], 0, [], layOf⟩
theorem stackJoin_env : EnvOk TT Try.prog stackJoin_C.E := envG (gCall_ok stack_tried_g2_ok (gCall_ok stack_tried_g1_ok (noCall_ok 25))) (envNil)
def stackJoin_cuts : List (Pos × Cut) := []
noncomputable def stackJoin (n : Nat) (x0 : List Bool) (x1 : List Bool) : Option (List Bool) := topF TT Try.prog stackJoin_C stackJoin_cuts Try.f11 (bodyOf Try.f11) ⟨[], []⟩ [.val (.list (.bool)), .val (.list (.bool))] [.own 47 (.bool)] n (x0, x1)
theorem stackJoin_eq (n : Nat) (x0 : List Bool) (x1 : List Bool) : stackJoin n x0 x1 =
  obind (stack_tried_g2 BIG x0 x1) fun y1 =>
  some y1.2.1 := by kernel_rfl
noncomputable def stackJoin_sp : FnSpec TT := ⟨[.val (.list (.bool)), .val (.list (.bool))], [.own 47 (.bool)], fun x => stackJoin BIG x.1 x.2⟩
theorem stackJoin_ok : FnOk TT Try.prog 11 stackJoin_sp := fnOk_of (C := stackJoin_C) (by kernel_rfl) stackJoin_env Try.func11 (show Try.f11.body = some (bodyOf Try.f11) by kernel_rfl) (by kernel_rfl) (by kernel_rfl) (cuts := stackJoin_cuts) fun x y h => ⟨BIG, h⟩
end Go.X
