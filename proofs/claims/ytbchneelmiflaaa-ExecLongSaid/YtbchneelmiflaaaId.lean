/- The laws. -/
import Derived.Test.YtbchneelmiflaaaIc
namespace Go.X
open Go.RowKit Go.V Go.Proofs
noncomputable def law10_awake_C : Ctx TT := ⟨tyOf, [(8, execRun_sp.toCall)], 0, [], layOf⟩
theorem law10_awake_env : EnvOk TT Try.prog law10_awake_C.E := envG (fnCall_ok execRun_ok) (envNil)
def law10_awake_cuts : List (Pos × Cut) := []
noncomputable def law10_awake (n : Nat)  : Option (Bool) := topF TT Try.prog law10_awake_C law10_awake_cuts Try.f6 (bodyOf Try.f6) ⟨[], []⟩ [] [.val (.bool)] n ()
theorem law10_awake_eq (n : Nat)  : law10_awake n  =
  if 0 ≤ (14 : Int) ∧ (14 : Int) ≤ (14 : Int) ∧ 1 * 14 ≤ 281474976710656 ∧ (14 : Int) ≤ 9223372036854775807 then (if 0 ≤ (12 : Int) ∧ (12 : Int) < (((List.replicate 14 (0 : Int)).length : Nat) : Int) then (if 0 ≤ (13 : Int) ∧ (13 : Int) < ((((List.replicate 14 (0 : Int)).set 12 (8 : Int)).length : Nat) : Int) then (obind (execRun BIG ([(⟨(14 : Int), false, (0 : Int), (1 : Int), false, (12 : Int), (0 : Int), (2 : Int)⟩ : Ins), (⟨(28 : Int), false, (0 : Int), (0 : Int), false, (0 : Int), (0 : Int), (0 : Int)⟩ : Ins)] : List Ins) (((List.replicate 14 (0 : Int)).set 12 (8 : Int)).set 13 (6 : Int))) fun y1 =>
  if 0 ≤ (0 : Int) ∧ (0 : Int) ≤ (13 : Int) ∧ (13 : Int) ≤ (((((List.replicate 14 (0 : Int)).set 12 (8 : Int)).set 13 (6 : Int)).length : Nat) : Int) then (if 13 ≤ (((List.replicate 14 (0 : Int)).set 12 (8 : Int)).set 13 (6 : Int)).length then (obind (execRun BIG ([(⟨(14 : Int), false, (0 : Int), (1 : Int), false, (12 : Int), (0 : Int), (2 : Int)⟩ : Ins), (⟨(28 : Int), false, (0 : Int), (0 : Int), false, (0 : Int), (0 : Int), (0 : Int)⟩ : Ins)] : List Ins) (List.take 13 (List.drop 0 (((List.replicate 14 (0 : Int)).set 12 (8 : Int)).set 13 (6 : Int))))) fun y2 =>
  obind (execRun BIG ([(⟨(12 : Int), false, (0 : Int), (3 : Int), false, (0 : Int), (0 : Int), (0 : Int)⟩ : Ins), (⟨(28 : Int), false, (0 : Int), (0 : Int), false, (0 : Int), (0 : Int), (0 : Int)⟩ : Ins)] : List Ins) (((List.replicate 14 (0 : Int)).set 12 (8 : Int)).set 13 (6 : Int))) fun y3 =>
  forkB ((y1.Err == (0 : Int)) && ((y1.At == (0 : Int)) && ((y1.Verdict == (2054 : Int)) && (y1.Steps == (2 : Int)))))
  (forkB ((y2.Err == (112 : Int)) && ((y2.At == (0 : Int)) && ((y2.Verdict == (0 : Int)) && (y2.Steps == (1 : Int)))))
   (some ((y3.Err == (110 : Int)) && ((y3.At == (0 : Int)) && ((y3.Verdict == (0 : Int)) && (y3.Steps == (1 : Int))))))
   (some false))
  (some false)) else none) else none) else none) else none) else none := by kernel_rfl
noncomputable def law10_awake_sp : FnSpec TT := ⟨[], [.val (.bool)], fun _ => law10_awake BIG ⟩
theorem law10_awake_ok : FnOk TT Try.prog 6 law10_awake_sp := fnOk_of (C := law10_awake_C) (by kernel_rfl) law10_awake_env Try.func6 (show Try.f6.body = some (bodyOf Try.f6) by kernel_rfl) (by kernel_rfl) (by kernel_rfl) (cuts := law10_awake_cuts) fun x y h => ⟨BIG, h⟩
noncomputable def law10ExecEnds_C : Ctx TT := ⟨tyOf, [(6, law10_awake_sp.toCall), (8, execRun_sp.toCall), (9, shapeCheck_sp.toCall)], 0, [], layOf⟩
theorem law10ExecEnds_env : EnvOk TT Try.prog law10ExecEnds_C.E := envG (fnCall_ok law10_awake_ok) (envG (fnCall_ok execRun_ok) (envG (fnCall_ok shapeCheck_ok) (envNil)))
def law10ExecEnds_cuts : List (Pos × Cut) := [([false, true, true], ⟨[0, 1, 16], [], false, []⟩), ([false, true, true, true, true, true, true], ⟨[5, 53], [], false, []⟩)]
noncomputable def law10ExecEnds (n : Nat) (x0 : List Ins) (x1 : List Int) : Option (Bool) := topF TT Try.prog law10ExecEnds_C law10ExecEnds_cuts Try.f4 (bodyOf Try.f4) ⟨[], []⟩ [.val (.list (.user 0)), .val (.list (.int .u8))] [.val (.bool)] n (x0, x1)
noncomputable def law10ExecEnds_J0 (n : Nat) (s0 : List Ins) (s1 : List Int) (s16 : Bool) : Option (Bool) := cutF TT Try.prog law10ExecEnds_C law10ExecEnds_cuts Try.f4 (bodyOf Try.f4) ⟨[], []⟩ [.val (.list (.user 0)), .val (.list (.int .u8))] [.val (.bool)] n [false, true, true] ⟨[(0, .cell ⟨.list (.user 0), s0⟩), (1, .cell ⟨.list (.int .u8), s1⟩), (16, .cell ⟨.bool, s16⟩)], []⟩
noncomputable def law10ExecEnds_J1 (n : Nat) (s53 : Bool) (b0_0 : Int) (b0_1 : Int) (b0_2 : Int) (b0_3 : Int) : Option (Bool) := cutF TT Try.prog law10ExecEnds_C law10ExecEnds_cuts Try.f4 (bodyOf Try.f4) ⟨[], []⟩ [.val (.list (.user 0)), .val (.list (.int .u8))] [.val (.bool)] n [false, true, true, true, true, true, true] ⟨[(5, .ptr 0 0), (53, .cell ⟨.bool, s53⟩)], [.blk 33 [.cell ⟨.int .i64, b0_0⟩, .cell ⟨.int .i64, b0_1⟩, .cell ⟨.int .u64, b0_2⟩, .cell ⟨.int .i64, b0_3⟩]]⟩
theorem law10ExecEnds_eq (n : Nat) (x0 : List Ins) (x1 : List Int) : law10ExecEnds n x0 x1 =
  obind (law10_awake BIG ) fun y1 =>
  forkB (!y1)
  (some false)
  (forkB (decide (((x0.length : Nat) : Int) > (300 : Int)))
   (law10ExecEnds_J0 n x0 x1 true)
   (law10ExecEnds_J0 n x0 x1 (decide (((x1.length : Nat) : Int) > (3000 : Int))))) := by kernel_rfl
theorem law10ExecEnds_J0_eq (n : Nat) (s0 : List Ins) (s1 : List Int) (s16 : Bool) : law10ExecEnds_J0 (n + 1) s0 s1 s16 =
  forkB s16
  (some true)
  (obind (execRun BIG s0 s1) fun y1 =>
   obind (shapeCheck BIG s0) fun y2 =>
   forkB (y2.Err != (0 : Int))
   (some ((y1.Err == y2.Err) && ((y1.At == y2.At) && ((y1.Verdict == (0 : Int)) && (y1.Steps == (0 : Int))))))
   (forkB (decide (y1.Steps < (1 : Int)))
    (law10ExecEnds_J1 n true y1.Err y1.At y1.Verdict y1.Steps)
    (forkB (decide (y1.Steps > ((s0.length : Nat) : Int)))
     (law10ExecEnds_J1 n true y1.Err y1.At y1.Verdict y1.Steps)
     (forkB (decide (y1.At < (0 : Int)))
      (law10ExecEnds_J1 n true y1.Err y1.At y1.Verdict y1.Steps)
      (law10ExecEnds_J1 n (decide (y1.At ≥ ((s0.length : Nat) : Int))) y1.Err y1.At y1.Verdict y1.Steps))))) := by kernel_rfl
theorem law10ExecEnds_J1_eq (n : Nat) (s53 : Bool) (b0_0 : Int) (b0_1 : Int) (b0_2 : Int) (b0_3 : Int) : law10ExecEnds_J1 (n + 1) s53 b0_0 b0_1 b0_2 b0_3 =
  forkB s53
  (some false)
  (forkB (b0_0 == (0 : Int))
   (forkB (b0_1 == (0 : Int))
    (some true)
    (forkB (b0_0 != (0 : Int))
     (some (b0_2 == (0 : Int)))
     (some false)))
   (forkB (b0_0 != (0 : Int))
    (some (b0_2 == (0 : Int)))
    (some false))) := by kernel_rfl
noncomputable def law10ExecEnds_sp : FnSpec TT := ⟨[.val (.list (.user 0)), .val (.list (.int .u8))], [.val (.bool)], fun x => law10ExecEnds BIG x.1 x.2⟩
theorem law10ExecEnds_ok : FnOk TT Try.prog 4 law10ExecEnds_sp := fnOk_of (C := law10ExecEnds_C) (by kernel_rfl) law10ExecEnds_env Try.func4 (show Try.f4.body = some (bodyOf Try.f4) by kernel_rfl) (by kernel_rfl) (by kernel_rfl) (cuts := law10ExecEnds_cuts) fun x y h => ⟨BIG, h⟩
noncomputable def law10ExecUnder_C : Ctx TT := ⟨tyOf, [(6, law10_awake_sp.toCall), (9, shapeCheck_sp.toCall), (7, kitPick_sp.toCall), (8, execRun_sp.toCall)], 0, [], layOf⟩
theorem law10ExecUnder_env : EnvOk TT Try.prog law10ExecUnder_C.E := envG (fnCall_ok law10_awake_ok) (envG (fnCall_ok shapeCheck_ok) (envG (fnCall_ok kitPick_ok) (envG (fnCall_ok execRun_ok) (envNil))))
def law10ExecUnder_cuts : List (Pos × Cut) := [([false, true, true], ⟨[0, 1, 2, 27], [], false, []⟩), ([false, true, false, true, true, true], ⟨[0, 1, 2, 7], [], false, []⟩), ([false, false, true, false, false, true, false, true, true, true], ⟨[0, 1, 2, 7, 47], [], false, []⟩), ([true, true, true, true, true, true, true], ⟨[10, 11], [], false, []⟩)]
noncomputable def law10ExecUnder (n : Nat) (x0 : List Ins) (x1 : List Int) (x2 : Int) : Option (Bool) := topF TT Try.prog law10ExecUnder_C law10ExecUnder_cuts Try.f5 (bodyOf Try.f5) ⟨[], []⟩ [.val (.list (.user 0)), .val (.list (.int .u8)), .val (.int .i64)] [.val (.bool)] n (x0, x1, x2)
noncomputable def law10ExecUnder_J0 (n : Nat) (s0 : List Ins) (s1 : List Int) (s2 : Int) (s27 : Bool) : Option (Bool) := cutF TT Try.prog law10ExecUnder_C law10ExecUnder_cuts Try.f5 (bodyOf Try.f5) ⟨[], []⟩ [.val (.list (.user 0)), .val (.list (.int .u8)), .val (.int .i64)] [.val (.bool)] n [false, true, true] ⟨[(0, .cell ⟨.list (.user 0), s0⟩), (1, .cell ⟨.list (.int .u8), s1⟩), (2, .cell ⟨.int .i64, s2⟩), (27, .cell ⟨.bool, s27⟩)], []⟩
noncomputable def law10ExecUnder_L1 (n : Nat) (s0 : List Ins) (s1 : List Int) (s2 : Int) (s7 : Int) : Option (Bool) := cutF TT Try.prog law10ExecUnder_C law10ExecUnder_cuts Try.f5 (bodyOf Try.f5) ⟨[], []⟩ [.val (.list (.user 0)), .val (.list (.int .u8)), .val (.int .i64)] [.val (.bool)] n [false, true, false, true, true, true] ⟨[(0, .cell ⟨.list (.user 0), s0⟩), (1, .cell ⟨.list (.int .u8), s1⟩), (2, .cell ⟨.int .i64, s2⟩), (7, .cell ⟨.int .i64, s7⟩)], []⟩
noncomputable def law10ExecUnder_J2 (n : Nat) (s0 : List Ins) (s1 : List Int) (s2 : Int) (s7 : Int) (s47 : Bool) : Option (Bool) := cutF TT Try.prog law10ExecUnder_C law10ExecUnder_cuts Try.f5 (bodyOf Try.f5) ⟨[], []⟩ [.val (.list (.user 0)), .val (.list (.int .u8)), .val (.int .i64)] [.val (.bool)] n [false, false, true, false, false, true, false, true, true, true] ⟨[(0, .cell ⟨.list (.user 0), s0⟩), (1, .cell ⟨.list (.int .u8), s1⟩), (2, .cell ⟨.int .i64, s2⟩), (7, .cell ⟨.int .i64, s7⟩), (47, .cell ⟨.bool, s47⟩)], []⟩
noncomputable def law10ExecUnder_J3 (n : Nat) (b0_0 : Int) (b0_1 : Int) (b0_2 : Int) (b0_3 : Int) (b1_0 : Int) (b1_1 : Int) (b1_2 : Int) (b1_3 : Int) : Option (Bool) := cutF TT Try.prog law10ExecUnder_C law10ExecUnder_cuts Try.f5 (bodyOf Try.f5) ⟨[], []⟩ [.val (.list (.user 0)), .val (.list (.int .u8)), .val (.int .i64)] [.val (.bool)] n [true, true, true, true, true, true, true] ⟨[(10, .ptr 0 0), (11, .ptr 1 0)], [.blk 33 [.cell ⟨.int .i64, b0_0⟩, .cell ⟨.int .i64, b0_1⟩, .cell ⟨.int .u64, b0_2⟩, .cell ⟨.int .i64, b0_3⟩], .blk 33 [.cell ⟨.int .i64, b1_0⟩, .cell ⟨.int .i64, b1_1⟩, .cell ⟨.int .u64, b1_2⟩, .cell ⟨.int .i64, b1_3⟩]]⟩
theorem law10ExecUnder_eq (n : Nat) (x0 : List Ins) (x1 : List Int) (x2 : Int) : law10ExecUnder n x0 x1 x2 =
  obind (law10_awake BIG ) fun y1 =>
  forkB (!y1)
  (some false)
  (forkB (decide (((x0.length : Nat) : Int) > (298 : Int)))
   (law10ExecUnder_J0 n x0 x1 x2 true)
   (forkB (decide (((x1.length : Nat) : Int) > (3000 : Int)))
    (law10ExecUnder_J0 n x0 x1 x2 true)
    (obind (shapeCheck BIG x0) fun y2 =>
     law10ExecUnder_J0 n x0 x1 x2 (y2.Err != (0 : Int))))) := by kernel_rfl
theorem law10ExecUnder_J0_eq (n : Nat) (s0 : List Ins) (s1 : List Int) (s2 : Int) (s27 : Bool) : law10ExecUnder_J0 (n + 1) s0 s1 s2 s27 =
  forkB s27
  (some true)
  (law10ExecUnder_L1 n s0 s1 s2 (0 : Int)) := by kernel_rfl
theorem law10ExecUnder_L1_eq (n : Nat) (s0 : List Ins) (s1 : List Int) (s2 : Int) (s7 : Int) : law10ExecUnder_L1 (n + 1) s0 s1 s2 s7 =
  forkB (decide (s7 < ((s0.length : Nat) : Int)))
  (if 0 ≤ s7 ∧ s7 < ((s0.length : Nat) : Int) then (forkB (((s0.getD s7.toNat dIns).Dst) == (9 : Int))
   (law10ExecUnder_J2 n s0 s1 s2 s7 true)
   (if 0 ≤ s7 ∧ s7 < ((s0.length : Nat) : Int) then (law10ExecUnder_J2 n s0 s1 s2 s7 (((s0.getD s7.toNat dIns).Src) == (9 : Int))) else none)) else none)
  (obind (kitPick BIG s2 (1000 : Int)) fun y1 =>
   if (1 + s0.length) * 56 ≤ 140737488355328 then (obind (execRun BIG s0 s1) fun y2 =>
   obind (execRun BIG (([(⟨(12 : Int), false, (9 : Int), (0 : Int), true, (0 : Int), y1, (0 : Int)⟩ : Ins)] : List Ins) ++ s0) s1) fun y3 =>
   forkB (y2.Err != (0 : Int))
   (law10ExecUnder_J3 n y2.Err (IntKind.i64.wrap (y2.At + (1 : Int))) y2.Verdict y2.Steps y3.Err y3.At y3.Verdict y3.Steps)
   (law10ExecUnder_J3 n y2.Err y2.At y2.Verdict y2.Steps y3.Err y3.At y3.Verdict y3.Steps)) else none) := by kernel_rfl
theorem law10ExecUnder_J2_eq (n : Nat) (s0 : List Ins) (s1 : List Int) (s2 : Int) (s7 : Int) (s47 : Bool) : law10ExecUnder_J2 (n + 1) s0 s1 s2 s7 s47 =
  forkB s47
  (some true)
  (law10ExecUnder_L1 n s0 s1 s2 (IntKind.i64.wrap (s7 + (1 : Int)))) := by kernel_rfl
theorem law10ExecUnder_J3_eq (n : Nat) (b0_0 : Int) (b0_1 : Int) (b0_2 : Int) (b0_3 : Int) (b1_0 : Int) (b1_1 : Int) (b1_2 : Int) (b1_3 : Int) : law10ExecUnder_J3 (n + 1) b0_0 b0_1 b0_2 b0_3 b1_0 b1_1 b1_2 b1_3 =
  some ((b0_0 == b1_0) && ((b0_1 == b1_1) && ((b0_2 == b1_2) && ((IntKind.i64.wrap (b0_3 + (1 : Int))) == b1_3)))) := by kernel_rfl
noncomputable def law10ExecUnder_sp : FnSpec TT := ⟨[.val (.list (.user 0)), .val (.list (.int .u8)), .val (.int .i64)], [.val (.bool)], fun x => law10ExecUnder BIG x.1 x.2.1 x.2.2⟩
theorem law10ExecUnder_ok : FnOk TT Try.prog 5 law10ExecUnder_sp := fnOk_of (C := law10ExecUnder_C) (by kernel_rfl) law10ExecUnder_env Try.func5 (show Try.f5.body = some (bodyOf Try.f5) by kernel_rfl) (by kernel_rfl) (by kernel_rfl) (cuts := law10ExecUnder_cuts) fun x y h => ⟨BIG, h⟩
noncomputable def law10ExecLong_C : Ctx TT := ⟨tyOf, [(6, law10_awake_sp.toCall), (7, kitPick_sp.toCall), (8, execRun_sp.toCall)], 0, [], layOf⟩
theorem law10ExecLong_env : EnvOk TT Try.prog law10ExecLong_C.E := envG (fnCall_ok law10_awake_ok) (envG (fnCall_ok kitPick_ok) (envG (fnCall_ok execRun_ok) (envNil)))
def law10ExecLong_cuts : List (Pos × Cut) := [([false, true, false, true, true, true], ⟨[1, 2, 7, 8], [], false, []⟩), ([false, true, false, true, true, true, true, true, true, true, true, true, true, true], ⟨[7, 9, 10, 12, 13, 14], [], false, []⟩)]
noncomputable def law10ExecLong (n : Nat) (x0 : Int) (x1 : Int) (x2 : Int) : Option (Bool) := topF TT Try.prog law10ExecLong_C law10ExecLong_cuts Try.f3 (bodyOf Try.f3) ⟨[], []⟩ [.val (.int .i64), .val (.int .i64), .val (.int .i64)] [.val (.bool)] n (x0, x1, x2)
noncomputable def law10ExecLong_L0 (n : Nat) (s1 : Int) (s2 : Int) (s8 : Int) (r0 : List Int) : Option (Bool) := cutF TT Try.prog law10ExecLong_C law10ExecLong_cuts Try.f3 (bodyOf Try.f3) ⟨[], []⟩ [.val (.int .i64), .val (.int .i64), .val (.int .i64)] [.val (.bool)] n [false, true, false, true, true, true] ⟨[(1, .cell ⟨.int .i64, s1⟩), (2, .cell ⟨.int .i64, s2⟩), (7, .own 0), (8, .cell ⟨.int .i64, s8⟩)], [.row 5 (.int .u8) r0]⟩
noncomputable def law10ExecLong_L1 (n : Nat) (s9 : Int) (s10 : Int) (s13 : Int) (s14 : Int) (r0 : List Int) (b1_0 : Int) (b1_1 : Int) (b1_2 : Int) (b1_3 : Int) : Option (Bool) := cutF TT Try.prog law10ExecLong_C law10ExecLong_cuts Try.f3 (bodyOf Try.f3) ⟨[], []⟩ [.val (.int .i64), .val (.int .i64), .val (.int .i64)] [.val (.bool)] n [false, true, false, true, true, true, true, true, true, true, true, true, true, true] ⟨[(7, .own 0), (9, .cell ⟨.int .i64, s9⟩), (10, .cell ⟨.int .i64, s10⟩), (12, .ptr 1 0), (13, .cell ⟨.int .u64, s13⟩), (14, .cell ⟨.int .i64, s14⟩)], [.row 5 (.int .u8) r0, .blk 33 [.cell ⟨.int .i64, b1_0⟩, .cell ⟨.int .i64, b1_1⟩, .cell ⟨.int .u64, b1_2⟩, .cell ⟨.int .i64, b1_3⟩]]⟩
theorem law10ExecLong_eq (n : Nat) (x0 : Int) (x1 : Int) (x2 : Int) : law10ExecLong n x0 x1 x2 =
  obind (law10_awake BIG ) fun y1 =>
  forkB (!y1)
  (some false)
  (obind (kitPick BIG x0 (10 : Int)) fun y2 =>
   if 0 ≤ IntKind.i64.wrap ((65530 : Int) + y2) ∧ IntKind.i64.wrap ((65530 : Int) + y2) ≤ IntKind.i64.wrap ((65530 : Int) + y2) ∧ 1 * ((IntKind.i64.wrap ((65530 : Int) + y2)).toNat) ≤ 281474976710656 ∧ IntKind.i64.wrap ((65530 : Int) + y2) ≤ 9223372036854775807 then (law10ExecLong_L0 n x1 x2 (65500 : Int) (List.replicate ((IntKind.i64.wrap ((65530 : Int) + y2)).toNat) (0 : Int))) else none) := by kernel_rfl
theorem law10ExecLong_L0_eq (n : Nat) (s1 : Int) (s2 : Int) (s8 : Int) (r0 : List Int) : law10ExecLong_L0 (n + 1) s1 s2 s8 r0 =
  forkB (decide (s8 < ((r0.length : Nat) : Int)))
  (if 0 ≤ s8 ∧ s8 < ((r0.length : Nat) : Int) then (law10ExecLong_L0 n s1 s2 (IntKind.i64.wrap (s8 + (1 : Int))) (r0.set s8.toNat (IntKind.u8.wrap s8))) else none)
  (obind (kitPick BIG s2 (4 : Int)) fun y1 =>
   if IntKind.u64.wrap y1 < 0 then none else (obind (kitPick BIG s1 (40 : Int)) fun y2 =>
   obind (execRun BIG ([(⟨(1 : Int), false, (1 : Int), (0 : Int), true, (0 : Int), IntKind.i64.wrap ((65500 : Int) + y2), (0 : Int)⟩ : Ins), (⟨(14 : Int), false, (0 : Int), (1 : Int), false, (0 : Int), (0 : Int), sShl .i64 (1 : Int) (IntKind.u64.wrap y1)⟩ : Ins), (⟨(28 : Int), false, (0 : Int), (0 : Int), false, (0 : Int), (0 : Int), (0 : Int)⟩ : Ins)] : List Ins) r0) fun y3 =>
   forkB (decide (((r0.length : Nat) : Int) > (65535 : Int)))
   (some ((y3.Err == (3 : Int)) && ((y3.At == (0 : Int)) && ((y3.Verdict == (0 : Int)) && (y3.Steps == (0 : Int))))))
   (forkB (decide ((IntKind.i64.wrap ((IntKind.i64.wrap ((65500 : Int) + y2)) + (sShl .i64 (1 : Int) (IntKind.u64.wrap y1)))) > ((r0.length : Nat) : Int)))
    (some ((y3.Err == (112 : Int)) && ((y3.At == (1 : Int)) && ((y3.Verdict == (0 : Int)) && (y3.Steps == (2 : Int))))))
    (law10ExecLong_L1 n (sShl .i64 (1 : Int) (IntKind.u64.wrap y1)) (IntKind.i64.wrap ((65500 : Int) + y2)) (0 : Int) (0 : Int) r0 y3.Err y3.At y3.Verdict y3.Steps)))) := by kernel_rfl
theorem law10ExecLong_L1_eq (n : Nat) (s9 : Int) (s10 : Int) (s13 : Int) (s14 : Int) (r0 : List Int) (b1_0 : Int) (b1_1 : Int) (b1_2 : Int) (b1_3 : Int) : law10ExecLong_L1 (n + 1) s9 s10 s13 s14 r0 b1_0 b1_1 b1_2 b1_3 =
  forkB (decide (s14 < s9))
  (if 0 ≤ IntKind.i64.wrap (s10 + s14) ∧ IntKind.i64.wrap (s10 + s14) < ((r0.length : Nat) : Int) then (law10ExecLong_L1 n s9 s10 (bOr .u64 (sShl .u64 s13 (8 : Int)) (IntKind.u64.wrap (r0.getD ((IntKind.i64.wrap (s10 + s14)).toNat) (0 : Int)))) (IntKind.i64.wrap (s14 + (1 : Int))) r0 b1_0 b1_1 b1_2 b1_3) else none)
  (some ((b1_0 == (0 : Int)) && ((b1_1 == (0 : Int)) && ((b1_2 == s13) && (b1_3 == (3 : Int)))))) := by kernel_rfl
noncomputable def law10ExecLong_sp : FnSpec TT := ⟨[.val (.int .i64), .val (.int .i64), .val (.int .i64)], [.val (.bool)], fun x => law10ExecLong BIG x.1 x.2.1 x.2.2⟩
theorem law10ExecLong_ok : FnOk TT Try.prog 3 law10ExecLong_sp := fnOk_of (C := law10ExecLong_C) (by kernel_rfl) law10ExecLong_env Try.func3 (show Try.f3.body = some (bodyOf Try.f3) by kernel_rfl) (by kernel_rfl) (by kernel_rfl) (cuts := law10ExecLong_cuts) fun x y h => ⟨BIG, h⟩
end Go.X
