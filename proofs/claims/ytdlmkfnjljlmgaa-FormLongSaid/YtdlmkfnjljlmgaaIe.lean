/- The laws of shape. -/
import Derived.Test.YtdlmkfnjljlmgaaId
namespace Go.X
open Go.RowKit Go.V Go.Proofs
noncomputable def law08_fault_C : Ctx TT := ⟨tyOf, [(32, shapeCheck_sp.toCall)], 0, []⟩
theorem law08_fault_env : EnvOk TT Try.prog law08_fault_C.E := envG (fnCall_ok shapeCheck_ok) (envNil)
def law08_fault_cuts : List (Pos × Cut) := []
noncomputable def law08_fault (n : Nat) (x0 : List Ins) (x1 : Int) (x2 : Int) : Option (Bool) := topF TT Try.prog law08_fault_C law08_fault_cuts Try.f34 (bodyOf Try.f34) [.val (.list (.user 0)), .val (.int .i64), .val (.int .i64)] [.val (.bool)] n (x0, x1, x2)
theorem law08_fault_eq (n : Nat) (x0 : List Ins) (x1 : Int) (x2 : Int) : law08_fault n x0 x1 x2 =
  obind (shapeCheck BIG x0) fun y1 =>
  some ((y1.Err == x1) && (y1.At == x2)) := by kernel_rfl
noncomputable def law08_fault_sp : FnSpec TT := ⟨[.val (.list (.user 0)), .val (.int .i64), .val (.int .i64)], [.val (.bool)], fun x => law08_fault BIG x.1 x.2.1 x.2.2⟩
theorem law08_fault_ok : FnOk TT Try.prog 34 law08_fault_sp := fnOk_of (C := law08_fault_C) (by kernel_rfl) law08_fault_env Try.func34 (show Try.f34.body = some (bodyOf Try.f34) by kernel_rfl) (by kernel_rfl) (by kernel_rfl) (cuts := law08_fault_cuts) fun x y h => ⟨BIG, h⟩
noncomputable def law08_awake_C : Ctx TT := ⟨tyOf, [(34, law08_fault_sp.toCall)], 0, []⟩
theorem law08_awake_env : EnvOk TT Try.prog law08_awake_C.E := envG (fnCall_ok law08_fault_ok) (envNil)
def law08_awake_cuts : List (Pos × Cut) := []
noncomputable def law08_awake (n : Nat)  : Option (Bool) := topF TT Try.prog law08_awake_C law08_awake_cuts Try.f31 (bodyOf Try.f31) [] [.val (.bool)] n ()
theorem law08_awake_eq (n : Nat)  : law08_awake n  =
  obind (law08_fault BIG ([(⟨(12 : Int), false, (0 : Int), (0 : Int), true, (0 : Int), (1 : Int), (0 : Int)⟩ : Ins), (⟨(28 : Int), false, (0 : Int), (0 : Int), false, (0 : Int), (0 : Int), (0 : Int)⟩ : Ins)] : List Ins) (0 : Int) (0 : Int)) fun y1 =>
  forkB y1
  (obind (law08_fault BIG ([(⟨(28 : Int), false, (0 : Int), (0 : Int), false, (0 : Int), (0 : Int), (0 : Int)⟩ : Ins), (⟨(28 : Int), false, (0 : Int), (0 : Int), false, (0 : Int), (0 : Int), (0 : Int)⟩ : Ins)] : List Ins) (103 : Int) (1 : Int)) fun y2 =>
   forkB y2
   (obind (law08_fault BIG ([(⟨(16 : Int), false, (0 : Int), (0 : Int), false, (0 : Int), (0 : Int), (0 : Int)⟩ : Ins), (⟨(12 : Int), false, (0 : Int), (0 : Int), true, (0 : Int), (1 : Int), (0 : Int)⟩ : Ins)] : List Ins) (102 : Int) (1 : Int)) fun y3 =>
    forkB y3
    (obind (law08_fault BIG ([(⟨(16 : Int), false, (0 : Int), (0 : Int), false, (-1 : Int), (0 : Int), (0 : Int)⟩ : Ins)] : List Ins) (100 : Int) (0 : Int)) fun y4 =>
     forkB y4
     (obind (law08_fault BIG ([(⟨(16 : Int), false, (0 : Int), (0 : Int), false, (1 : Int), (0 : Int), (0 : Int)⟩ : Ins), (⟨(28 : Int), false, (0 : Int), (0 : Int), false, (0 : Int), (0 : Int), (0 : Int)⟩ : Ins)] : List Ins) (101 : Int) (0 : Int)) fun y5 =>
      forkB y5
      (obind (law08_fault BIG ([] : List Ins) (6 : Int) (0 : Int)) fun y6 =>
       some y6)
      (some false))
     (some false))
    (some false))
   (some false))
  (some false) := by kernel_rfl
noncomputable def law08_awake_sp : FnSpec TT := ⟨[], [.val (.bool)], fun _ => law08_awake BIG ⟩
theorem law08_awake_ok : FnOk TT Try.prog 31 law08_awake_sp := fnOk_of (C := law08_awake_C) (by kernel_rfl) law08_awake_env Try.func31 (show Try.f31.body = some (bodyOf Try.f31) by kernel_rfl) (by kernel_rfl) (by kernel_rfl) (cuts := law08_awake_cuts) fun x y h => ⟨BIG, h⟩
noncomputable def law08FormChecks_C : Ctx TT := ⟨tyOf, [(31, law08_awake_sp.toCall), (20, kitLentIns_g1_sp.toCall (noCall TT)), (32, shapeCheck_sp.toCall), (33, ref08Check_sp.toCall), (21, kitKeptIns_g1_sp.toCall (noCall TT))], 0, []⟩
theorem law08FormChecks_env : EnvOk TT Try.prog law08FormChecks_C.E := envG (fnCall_ok law08_awake_ok) (envG (gCall_ok kitLentIns_g1_ok (noCall_ok 20)) (envG (fnCall_ok shapeCheck_ok) (envG (fnCall_ok ref08Check_ok) (envG (gCall_ok kitKeptIns_g1_ok (noCall_ok 21)) (envNil)))))
def law08FormChecks_cuts : List (Pos × Cut) := []
noncomputable def law08FormChecks (n : Nat) (x0 : List Ins) : Option (Bool) := topF TT Try.prog law08FormChecks_C law08FormChecks_cuts Try.f8 (bodyOf Try.f8) [.val (.list (.user 0))] [.val (.bool)] n x0
theorem law08FormChecks_eq (n : Nat) (x0 : List Ins) : law08FormChecks n x0 =
  obind (law08_awake BIG ) fun y1 =>
  forkB (!y1)
  (some false)
  (forkB (decide (((x0.length : Nat) : Int) > (300 : Int)))
   (some true)
   (obind (kitLentIns_g1 BIG x0) fun y2 =>
    if y2.2.1.2.1 + y2.2.1.2.2 ≤ y2.2.1.1.length then (obind (shapeCheck BIG (List.take y2.2.1.2.2 (List.drop y2.2.1.2.1 y2.2.1.1))) fun y3 =>
    obind (ref08Check BIG x0) fun y4 =>
    forkB ((y3.Err == y4.Err) && (y3.At == y4.At))
    (obind (kitKeptIns_g1 BIG y2.2.1.1 y2.2.1.2.1 y2.2.1.2.2 x0) fun y5 =>
     some y5.2.1)
    (some false)) else none)) := by kernel_rfl
noncomputable def law08FormChecks_sp : FnSpec TT := ⟨[.val (.list (.user 0))], [.val (.bool)], fun x => law08FormChecks BIG x⟩
theorem law08FormChecks_ok : FnOk TT Try.prog 8 law08FormChecks_sp := fnOk_of (C := law08FormChecks_C) (by kernel_rfl) law08FormChecks_env Try.func8 (show Try.f8.body = some (bodyOf Try.f8) by kernel_rfl) (by kernel_rfl) (by kernel_rfl) (cuts := law08FormChecks_cuts) fun x y h => ⟨BIG, h⟩
noncomputable def law08FormLong_C : Ctx TT := ⟨tyOf, [(31, law08_awake_sp.toCall), (30, kitPick_sp.toCall), (34, law08_fault_sp.toCall)], 0, []⟩
theorem law08FormLong_env : EnvOk TT Try.prog law08FormLong_C.E := envG (fnCall_ok law08_awake_ok) (envG (fnCall_ok kitPick_ok) (envG (fnCall_ok law08_fault_ok) (envNil)))
def law08FormLong_cuts : List (Pos × Cut) := [([false, true, false, true, true, true], ⟨[0, 1, 5, 6], [(5, 27, .user 0)], false, []⟩)]
noncomputable def law08FormLong (n : Nat) (x0 : Int) (x1 : Int) : Option (Bool) := topF TT Try.prog law08FormLong_C law08FormLong_cuts Try.f9 (bodyOf Try.f9) [.val (.int .i64), .val (.int .i64)] [.val (.bool)] n (x0, x1)
noncomputable def law08FormLong_L0 (n : Nat) (s0 : Int) (s1 : Int) (s6 : Int) (r0 : List Ins) : Option (Bool) := cutF TT Try.prog law08FormLong_C law08FormLong_cuts Try.f9 (bodyOf Try.f9) [.val (.int .i64), .val (.int .i64)] [.val (.bool)] n [false, true, false, true, true, true] ⟨[(0, .cell ⟨.int .i64, s0⟩), (1, .cell ⟨.int .i64, s1⟩), (5, .own 0), (6, .cell ⟨.int .i64, s6⟩)], [.row 27 (.user 0) r0]⟩
theorem law08FormLong_eq (n : Nat) (x0 : Int) (x1 : Int) : law08FormLong n x0 x1 =
  obind (law08_awake BIG ) fun y1 =>
  forkB (!y1)
  (some false)
  (law08FormLong_L0 n x0 x1 (0 : Int) ([] : List Ins)) := by kernel_rfl
theorem law08FormLong_L0_eq (n : Nat) (s0 : Int) (s1 : Int) (s6 : Int) (r0 : List Ins) : law08FormLong_L0 (n + 1) s0 s1 s6 r0 =
  obind (kitPick BIG s0 (6 : Int)) fun y1 =>
  forkB (decide (s6 < (IntKind.i64.wrap ((4093 : Int) + y1))))
  (if (r0.length + 1) * 56 ≤ 140737488355328 then (law08FormLong_L0 n s0 s1 (IntKind.i64.wrap (s6 + (1 : Int))) (r0 ++ ([(⟨(12 : Int), false, (0 : Int), (0 : Int), true, (0 : Int), s6, (0 : Int)⟩ : Ins)] : List Ins))) else none)
  (if (r0.length + 1) * 56 ≤ 140737488355328 then (obind (kitPick BIG s1 (IntKind.i64.wrap ((((r0 ++ ([(⟨(28 : Int), false, (0 : Int), (0 : Int), false, (0 : Int), (0 : Int), (0 : Int)⟩ : Ins)] : List Ins)).length : Nat) : Int) + (2 : Int)))) fun y2 =>
   if 0 ≤ (0 : Int) ∧ (0 : Int) < (((r0 ++ ([(⟨(28 : Int), false, (0 : Int), (0 : Int), false, (0 : Int), (0 : Int), (0 : Int)⟩ : Ins)] : List Ins)).length : Nat) : Int) then (forkB (decide (((((r0 ++ ([(⟨(28 : Int), false, (0 : Int), (0 : Int), false, (0 : Int), (0 : Int), (0 : Int)⟩ : Ins)] : List Ins)).set 0 (⟨(17 : Int), false, (0 : Int), (0 : Int), false, y2, (0 : Int), (0 : Int)⟩ : Ins)).length : Nat) : Int) > (4096 : Int)))
   (obind (law08_fault BIG ((r0 ++ ([(⟨(28 : Int), false, (0 : Int), (0 : Int), false, (0 : Int), (0 : Int), (0 : Int)⟩ : Ins)] : List Ins)).set 0 (⟨(17 : Int), false, (0 : Int), (0 : Int), false, y2, (0 : Int), (0 : Int)⟩ : Ins)) (3 : Int) (0 : Int)) fun y3 =>
    some y3)
   (if 0 ≤ (0 : Int) ∧ (0 : Int) < ((((r0 ++ ([(⟨(28 : Int), false, (0 : Int), (0 : Int), false, (0 : Int), (0 : Int), (0 : Int)⟩ : Ins)] : List Ins)).set 0 (⟨(17 : Int), false, (0 : Int), (0 : Int), false, y2, (0 : Int), (0 : Int)⟩ : Ins)).length : Nat) : Int) then (forkB (decide ((IntKind.i64.wrap (((((r0 ++ ([(⟨(28 : Int), false, (0 : Int), (0 : Int), false, (0 : Int), (0 : Int), (0 : Int)⟩ : Ins)] : List Ins)).set 0 (⟨(17 : Int), false, (0 : Int), (0 : Int), false, y2, (0 : Int), (0 : Int)⟩ : Ins)).getD 0 dIns).Off) + (1 : Int))) ≥ ((((r0 ++ ([(⟨(28 : Int), false, (0 : Int), (0 : Int), false, (0 : Int), (0 : Int), (0 : Int)⟩ : Ins)] : List Ins)).set 0 (⟨(17 : Int), false, (0 : Int), (0 : Int), false, y2, (0 : Int), (0 : Int)⟩ : Ins)).length : Nat) : Int)))
    (obind (law08_fault BIG ((r0 ++ ([(⟨(28 : Int), false, (0 : Int), (0 : Int), false, (0 : Int), (0 : Int), (0 : Int)⟩ : Ins)] : List Ins)).set 0 (⟨(17 : Int), false, (0 : Int), (0 : Int), false, y2, (0 : Int), (0 : Int)⟩ : Ins)) (101 : Int) (0 : Int)) fun y4 =>
     some y4)
    (obind (law08_fault BIG ((r0 ++ ([(⟨(28 : Int), false, (0 : Int), (0 : Int), false, (0 : Int), (0 : Int), (0 : Int)⟩ : Ins)] : List Ins)).set 0 (⟨(17 : Int), false, (0 : Int), (0 : Int), false, y2, (0 : Int), (0 : Int)⟩ : Ins)) (0 : Int) (0 : Int)) fun y5 =>
     some y5)) else none)) else none) else none) := by kernel_rfl
noncomputable def law08FormLong_sp : FnSpec TT := ⟨[.val (.int .i64), .val (.int .i64)], [.val (.bool)], fun x => law08FormLong BIG x.1 x.2⟩
theorem law08FormLong_ok : FnOk TT Try.prog 9 law08FormLong_sp := fnOk_of (C := law08FormLong_C) (by kernel_rfl) law08FormLong_env Try.func9 (show Try.f9.body = some (bodyOf Try.f9) by kernel_rfl) (by kernel_rfl) (by kernel_rfl) (cuts := law08FormLong_cuts) fun x y h => ⟨BIG, h⟩
noncomputable def law08FormEnds_C : Ctx TT := ⟨tyOf, [(31, law08_awake_sp.toCall), (32, shapeCheck_sp.toCall), (18, insNext_g3_sp.toCall (insNext_g2_sp.toCall (insNext_g1_sp.toCall (noCall TT))))], 0, []⟩
theorem law08FormEnds_env : EnvOk TT Try.prog law08FormEnds_C.E := envG (fnCall_ok law08_awake_ok) (envG (fnCall_ok shapeCheck_ok) (envG (gCall_ok insNext_g3_ok (gCall_ok insNext_g2_ok (gCall_ok insNext_g1_ok (noCall_ok 18)))) (envNil)))
def law08FormEnds_cuts : List (Pos × Cut) := [([false, true, true], ⟨[0, 1, 2, 31], [], false, []⟩), ([false, true, false, true, true, true, true], ⟨[0, 1, 2, 7, 8], [], false, []⟩), ([true, true, true, true, false, false, true, false, false, true, false, true, true, true, true], ⟨[0, 1, 2, 7, 8, 9, 10], [], false, []⟩), ([false, true, true, true, true, false, false, true, false, false, true, false, true, true, true, true], ⟨[0, 1, 2, 7, 8, 9, 10, 63], [], false, []⟩), ([false, true, true, true, true, true, false, false, true, false, false, true, false, true, true, true, true], ⟨[0, 2, 7, 8, 9, 10, 81], [], false, []⟩)]
noncomputable def law08FormEnds (n : Nat) (x0 : List Ins) (x1 : Int) (x2 : List Bool) : Option (Bool) := topF TT Try.prog law08FormEnds_C law08FormEnds_cuts Try.f10 (bodyOf Try.f10) [.val (.list (.user 0)), .val (.int .i64), .val (.list (.bool))] [.val (.bool)] n (x0, x1, x2)
noncomputable def law08FormEnds_J0 (n : Nat) (s0 : List Ins) (s1 : Int) (s2 : List Bool) (s31 : Bool) : Option (Bool) := cutF TT Try.prog law08FormEnds_C law08FormEnds_cuts Try.f10 (bodyOf Try.f10) [.val (.list (.user 0)), .val (.int .i64), .val (.list (.bool))] [.val (.bool)] n [false, true, true] ⟨[(0, .cell ⟨.list (.user 0), s0⟩), (1, .cell ⟨.int .i64, s1⟩), (2, .cell ⟨.list (.bool), s2⟩), (31, .cell ⟨.bool, s31⟩)], []⟩
noncomputable def law08FormEnds_L1 (n : Nat) (s0 : List Ins) (s1 : Int) (s2 : List Bool) (s7 : Int) (s8 : Int) : Option (Bool) := cutF TT Try.prog law08FormEnds_C law08FormEnds_cuts Try.f10 (bodyOf Try.f10) [.val (.list (.user 0)), .val (.int .i64), .val (.list (.bool))] [.val (.bool)] n [false, true, false, true, true, true, true] ⟨[(0, .cell ⟨.list (.user 0), s0⟩), (1, .cell ⟨.int .i64, s1⟩), (2, .cell ⟨.list (.bool), s2⟩), (7, .cell ⟨.int .i64, s7⟩), (8, .cell ⟨.int .i64, s8⟩)], []⟩
noncomputable def law08FormEnds_J3 (n : Nat) (s0 : List Ins) (s1 : Int) (s2 : List Bool) (s7 : Int) (s8 : Int) (s9o : Nat) (s9n : Nat) (s10 : Int) (s63 : Bool) (r0 : List Int) : Option (Bool) := cutF TT Try.prog law08FormEnds_C law08FormEnds_cuts Try.f10 (bodyOf Try.f10) [.val (.list (.user 0)), .val (.int .i64), .val (.list (.bool))] [.val (.bool)] n [false, true, true, true, true, false, false, true, false, false, true, false, true, true, true, true] ⟨[(0, .cell ⟨.list (.user 0), s0⟩), (1, .cell ⟨.int .i64, s1⟩), (2, .cell ⟨.list (.bool), s2⟩), (7, .cell ⟨.int .i64, s7⟩), (8, .cell ⟨.int .i64, s8⟩), (9, .sl 0 1 s9o s9n), (10, .cell ⟨.int .i64, s10⟩), (63, .cell ⟨.bool, s63⟩)], [.row 3 (.int .i64) r0]⟩
noncomputable def law08FormEnds_J2 (n : Nat) (s0 : List Ins) (s1 : Int) (s2 : List Bool) (s7 : Int) (s8 : Int) (s9o : Nat) (s9n : Nat) (s10 : Int) (r0 : List Int) : Option (Bool) := cutF TT Try.prog law08FormEnds_C law08FormEnds_cuts Try.f10 (bodyOf Try.f10) [.val (.list (.user 0)), .val (.int .i64), .val (.list (.bool))] [.val (.bool)] n [true, true, true, true, false, false, true, false, false, true, false, true, true, true, true] ⟨[(0, .cell ⟨.list (.user 0), s0⟩), (1, .cell ⟨.int .i64, s1⟩), (2, .cell ⟨.list (.bool), s2⟩), (7, .cell ⟨.int .i64, s7⟩), (8, .cell ⟨.int .i64, s8⟩), (9, .sl 0 1 s9o s9n), (10, .cell ⟨.int .i64, s10⟩)], [.row 3 (.int .i64) r0]⟩
noncomputable def law08FormEnds_J4 (n : Nat) (s0 : List Ins) (s2 : List Bool) (s7 : Int) (s8 : Int) (s9o : Nat) (s9n : Nat) (s10 : Int) (s81 : Bool) (r0 : List Int) : Option (Bool) := cutF TT Try.prog law08FormEnds_C law08FormEnds_cuts Try.f10 (bodyOf Try.f10) [.val (.list (.user 0)), .val (.int .i64), .val (.list (.bool))] [.val (.bool)] n [false, true, true, true, true, true, false, false, true, false, false, true, false, true, true, true, true] ⟨[(0, .cell ⟨.list (.user 0), s0⟩), (2, .cell ⟨.list (.bool), s2⟩), (7, .cell ⟨.int .i64, s7⟩), (8, .cell ⟨.int .i64, s8⟩), (9, .sl 0 1 s9o s9n), (10, .cell ⟨.int .i64, s10⟩), (81, .cell ⟨.bool, s81⟩)], [.row 3 (.int .i64) r0]⟩
theorem law08FormEnds_eq (n : Nat) (x0 : List Ins) (x1 : Int) (x2 : List Bool) : law08FormEnds n x0 x1 x2 =
  obind (law08_awake BIG ) fun y1 =>
  forkB (!y1)
  (some false)
  (forkB (decide (((x0.length : Nat) : Int) > (300 : Int)))
   (law08FormEnds_J0 n x0 x1 x2 true)
   (obind (shapeCheck BIG x0) fun y2 =>
    forkB (y2.Err != (0 : Int))
    (law08FormEnds_J0 n x0 x1 x2 true)
    (forkB (decide (x1 < (0 : Int)))
     (law08FormEnds_J0 n x0 x1 x2 true)
     (law08FormEnds_J0 n x0 x1 x2 (decide (x1 ≥ ((x0.length : Nat) : Int))))))) := by kernel_rfl
theorem law08FormEnds_J0_eq (n : Nat) (s0 : List Ins) (s1 : Int) (s2 : List Bool) (s31 : Bool) : law08FormEnds_J0 (n + 1) s0 s1 s2 s31 =
  forkB s31
  (some true)
  (law08FormEnds_L1 n s0 s1 s2 (IntKind.i64.wrap (((s0.length : Nat) : Int) - s1)) (1 : Int)) := by kernel_rfl
theorem law08FormEnds_L1_eq (n : Nat) (s0 : List Ins) (s1 : Int) (s2 : List Bool) (s7 : Int) (s8 : Int) : law08FormEnds_L1 (n + 1) s0 s1 s2 s7 s8 =
  forkB (decide (s8 ≤ s7))
  (if 0 ≤ s1 ∧ s1 < ((s0.length : Nat) : Int) then (forkB (((s0.getD s1.toNat dIns).Op) == (28 : Int))
   (some true)
   (obind (insNext_g1 BIG s0 s1) fun y1 =>
    forkB (((y1.2.1.2.2 : Nat) : Int) == (0 : Int))
    (some false)
    (forkB (decide (s8 ≤ ((s2.length : Nat) : Int)))
     (if 0 ≤ IntKind.i64.wrap (s8 - (1 : Int)) ∧ IntKind.i64.wrap (s8 - (1 : Int)) < ((s2.length : Nat) : Int) then (law08FormEnds_J3 n s0 s1 s2 s7 s8 y1.2.1.2.1 y1.2.1.2.2 (0 : Int) (s2.getD ((IntKind.i64.wrap (s8 - (1 : Int))).toNat) false) y1.2.1.1) else none)
     (law08FormEnds_J3 n s0 s1 s2 s7 s8 y1.2.1.2.1 y1.2.1.2.2 (0 : Int) false y1.2.1.1)))) else none)
  (some false) := by kernel_rfl
theorem law08FormEnds_J3_eq (n : Nat) (s0 : List Ins) (s1 : Int) (s2 : List Bool) (s7 : Int) (s8 : Int) (s9o : Nat) (s9n : Nat) (s10 : Int) (s63 : Bool) (r0 : List Int) : law08FormEnds_J3 (n + 1) s0 s1 s2 s7 s8 s9o s9n s10 s63 r0 =
  forkB s63
  (law08FormEnds_J2 n s0 s1 s2 s7 s8 s9o s9n (IntKind.i64.wrap (((s9n : Nat) : Int) - (1 : Int))) r0)
  (law08FormEnds_J2 n s0 s1 s2 s7 s8 s9o s9n s10 r0) := by kernel_rfl
theorem law08FormEnds_J2_eq (n : Nat) (s0 : List Ins) (s1 : Int) (s2 : List Bool) (s7 : Int) (s8 : Int) (s9o : Nat) (s9n : Nat) (s10 : Int) (r0 : List Int) : law08FormEnds_J2 (n + 1) s0 s1 s2 s7 s8 s9o s9n s10 r0 =
  if 0 ≤ s10 ∧ s10 < ((s9n : Nat) : Int) then (if s9o + s10.toNat < r0.length then (forkB (decide ((r0.getD (s9o + s10.toNat) (0 : Int)) ≤ s1))
  (law08FormEnds_J4 n s0 s2 s7 s8 s9o s9n s10 true r0)
  (if 0 ≤ s10 ∧ s10 < ((s9n : Nat) : Int) then (if s9o + s10.toNat < r0.length then (law08FormEnds_J4 n s0 s2 s7 s8 s9o s9n s10 (decide ((r0.getD (s9o + s10.toNat) (0 : Int)) ≥ ((s0.length : Nat) : Int))) r0) else none) else none)) else none) else none := by kernel_rfl
theorem law08FormEnds_J4_eq (n : Nat) (s0 : List Ins) (s2 : List Bool) (s7 : Int) (s8 : Int) (s9o : Nat) (s9n : Nat) (s10 : Int) (s81 : Bool) (r0 : List Int) : law08FormEnds_J4 (n + 1) s0 s2 s7 s8 s9o s9n s10 s81 r0 =
  forkB s81
  (some false)
  (if 0 ≤ s10 ∧ s10 < ((s9n : Nat) : Int) then (if s9o + s10.toNat < r0.length then (law08FormEnds_L1 n s0 (r0.getD (s9o + s10.toNat) (0 : Int)) s2 s7 (IntKind.i64.wrap (s8 + (1 : Int)))) else none) else none) := by kernel_rfl
noncomputable def law08FormEnds_sp : FnSpec TT := ⟨[.val (.list (.user 0)), .val (.int .i64), .val (.list (.bool))], [.val (.bool)], fun x => law08FormEnds BIG x.1 x.2.1 x.2.2⟩
theorem law08FormEnds_ok : FnOk TT Try.prog 10 law08FormEnds_sp := fnOk_of (C := law08FormEnds_C) (by kernel_rfl) law08FormEnds_env Try.func10 (show Try.f10.body = some (bodyOf Try.f10) by kernel_rfl) (by kernel_rfl) (by kernel_rfl) (cuts := law08FormEnds_cuts) fun x y h => ⟨BIG, h⟩
noncomputable def law08FormCut_C : Ctx TT := ⟨tyOf, [(31, law08_awake_sp.toCall), (32, shapeCheck_sp.toCall)], 0, []⟩
theorem law08FormCut_env : EnvOk TT Try.prog law08FormCut_C.E := envG (fnCall_ok law08_awake_ok) (envG (fnCall_ok shapeCheck_ok) (envNil))
def law08FormCut_cuts : List (Pos × Cut) := [([false, true, true], ⟨[0, 1, 17], [], false, []⟩), ([false, true, true, true, true, true], ⟨[0, 1, 37], [], false, []⟩), ([false, true, false, true, true, true, true, true, true, true], ⟨[4], [], false, []⟩)]
noncomputable def law08FormCut (n : Nat) (x0 : List Ins) (x1 : Int) : Option (Bool) := topF TT Try.prog law08FormCut_C law08FormCut_cuts Try.f11 (bodyOf Try.f11) [.val (.list (.user 0)), .val (.int .i64)] [.val (.bool)] n (x0, x1)
noncomputable def law08FormCut_J0 (n : Nat) (s0 : List Ins) (s1 : Int) (s17 : Bool) : Option (Bool) := cutF TT Try.prog law08FormCut_C law08FormCut_cuts Try.f11 (bodyOf Try.f11) [.val (.list (.user 0)), .val (.int .i64)] [.val (.bool)] n [false, true, true] ⟨[(0, .cell ⟨.list (.user 0), s0⟩), (1, .cell ⟨.int .i64, s1⟩), (17, .cell ⟨.bool, s17⟩)], []⟩
noncomputable def law08FormCut_J1 (n : Nat) (s0 : List Ins) (s1 : Int) (s37 : Bool) : Option (Bool) := cutF TT Try.prog law08FormCut_C law08FormCut_cuts Try.f11 (bodyOf Try.f11) [.val (.list (.user 0)), .val (.int .i64)] [.val (.bool)] n [false, true, true, true, true, true] ⟨[(0, .cell ⟨.list (.user 0), s0⟩), (1, .cell ⟨.int .i64, s1⟩), (37, .cell ⟨.bool, s37⟩)], []⟩
noncomputable def law08FormCut_J2 (n : Nat) (s4 : Bool) : Option (Bool) := cutF TT Try.prog law08FormCut_C law08FormCut_cuts Try.f11 (bodyOf Try.f11) [.val (.list (.user 0)), .val (.int .i64)] [.val (.bool)] n [false, true, false, true, true, true, true, true, true, true] ⟨[(4, .cell ⟨.bool, s4⟩)], []⟩
theorem law08FormCut_eq (n : Nat) (x0 : List Ins) (x1 : Int) : law08FormCut n x0 x1 =
  obind (law08_awake BIG ) fun y1 =>
  forkB (!y1)
  (some false)
  (forkB (decide (((x0.length : Nat) : Int) > (300 : Int)))
   (law08FormCut_J0 n x0 x1 true)
   (obind (shapeCheck BIG x0) fun y2 =>
    law08FormCut_J0 n x0 x1 (y2.Err != (0 : Int)))) := by kernel_rfl
theorem law08FormCut_J0_eq (n : Nat) (s0 : List Ins) (s1 : Int) (s17 : Bool) : law08FormCut_J0 (n + 1) s0 s1 s17 =
  forkB s17
  (some true)
  (if (0 + s0.length) * 56 ≤ 140737488355328 then (if ((([] : List Ins) ++ s0).length + 1) * 56 ≤ 140737488355328 then (obind (shapeCheck BIG ((([] : List Ins) ++ s0) ++ ([(⟨(28 : Int), false, (0 : Int), (0 : Int), false, (0 : Int), (0 : Int), (0 : Int)⟩ : Ins)] : List Ins))) fun y1 =>
   forkB (!((y1.Err == (103 : Int)) && (y1.At == ((s0.length : Nat) : Int))))
   (some false)
   (forkB (decide (s1 < (1 : Int)))
    (law08FormCut_J1 n s0 s1 true)
    (law08FormCut_J1 n s0 s1 (decide (s1 ≥ ((s0.length : Nat) : Int)))))) else none) else none) := by kernel_rfl
theorem law08FormCut_J1_eq (n : Nat) (s0 : List Ins) (s1 : Int) (s37 : Bool) : law08FormCut_J1 (n + 1) s0 s1 s37 =
  forkB s37
  (some true)
  (if 0 ≤ (0 : Int) ∧ (0 : Int) ≤ s1 ∧ s1 ≤ ((s0.length : Nat) : Int) then (obind (shapeCheck BIG (List.take (s1.toNat - 0) (List.drop 0 s0))) fun y1 =>
   forkB (y1.Err == (0 : Int))
   (if 0 ≤ IntKind.i64.wrap (s1 - (1 : Int)) ∧ IntKind.i64.wrap (s1 - (1 : Int)) < ((s0.length : Nat) : Int) then (forkB (((s0.getD ((IntKind.i64.wrap (s1 - (1 : Int))).toNat) dIns).Op) == (28 : Int))
    (law08FormCut_J2 n true)
    (if 0 ≤ IntKind.i64.wrap (s1 - (1 : Int)) ∧ IntKind.i64.wrap (s1 - (1 : Int)) < ((s0.length : Nat) : Int) then (law08FormCut_J2 n (((s0.getD ((IntKind.i64.wrap (s1 - (1 : Int))).toNat) dIns).Op) == (16 : Int))) else none)) else none)
   (forkB (y1.Err == (101 : Int))
    (some (decide (y1.At < s1)))
    (forkB (y1.Err == (102 : Int))
     (some (decide (y1.At < s1)))
     (forkB (y1.Err == (103 : Int))
      (some (decide (y1.At < s1)))
      (some false))))) else none) := by kernel_rfl
theorem law08FormCut_J2_eq (n : Nat) (s4 : Bool) : law08FormCut_J2 (n + 1) s4 =
  some s4 := by kernel_rfl
noncomputable def law08FormCut_sp : FnSpec TT := ⟨[.val (.list (.user 0)), .val (.int .i64)], [.val (.bool)], fun x => law08FormCut BIG x.1 x.2⟩
theorem law08FormCut_ok : FnOk TT Try.prog 11 law08FormCut_sp := fnOk_of (C := law08FormCut_C) (by kernel_rfl) law08FormCut_env Try.func11 (show Try.f11.body = some (bodyOf Try.f11) by kernel_rfl) (by kernel_rfl) (by kernel_rfl) (cuts := law08FormCut_cuts) fun x y h => ⟨BIG, h⟩
end Go.X
