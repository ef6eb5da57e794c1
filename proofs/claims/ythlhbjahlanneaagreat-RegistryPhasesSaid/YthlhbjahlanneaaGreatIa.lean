/- Bytes of bundles. -/
import Derived.Test.YthlhbjahlanneaaGreatIs
namespace Go.X
open Go.RowKit Go.V Go.Proofs
noncomputable def ref02Number_C : Ctx TT := ⟨tyOf, [], 0, [], layOf⟩
theorem ref02Number_env : EnvOk TT Tryz.prog ref02Number_C.E := envNil
def ref02Number_cuts : List (Pos × Cut) := [([false, true, false, true, true], ⟨[0, 3, 4], [(3, 5, .int .u8)], false, []⟩)]
noncomputable def ref02Number (n : Nat) (x0 : Int) : Option (List Int) := topF TT Tryz.prog ref02Number_C ref02Number_cuts Tryz.f145 (bodyOf Tryz.f145) ⟨[], []⟩ [.val (.int .i64)] [.own 5 (.int .u8)] n x0
noncomputable def ref02Number_L0 (n : Nat) (s0 : Int) (s4 : Int) (r0 : List Int) : Option (List Int) := cutF TT Tryz.prog ref02Number_C ref02Number_cuts Tryz.f145 (bodyOf Tryz.f145) ⟨[], []⟩ [.val (.int .i64)] [.own 5 (.int .u8)] n [false, true, false, true, true] ⟨[(0, .cell ⟨.int .i64, s0⟩), (3, .own 0), (4, .cell ⟨.int .i64, s4⟩)], [.row 5 (.int .u8) r0]⟩
theorem ref02Number_eq (n : Nat) (x0 : Int) : ref02Number n x0 =
  ref02Number_L0 n x0 (7 : Int) ([] : List Int) := by kernel_rfl
theorem ref02Number_L0_eq (n : Nat) (s0 : Int) (s4 : Int) (r0 : List Int) : ref02Number_L0 (n + 1) s0 s4 r0 =
  forkB (decide (s4 ≥ (0 : Int)))
  (if IntKind.i64.wrap ((8 : Int) * s4) < 0 then none else (if (r0.length + 1) * 1 ≤ 140737488355328 then (ref02Number_L0 n s0 (IntKind.i64.wrap (s4 - (1 : Int))) (r0 ++ ([IntKind.u8.wrap (sShr .u64 (IntKind.u64.wrap s0) (IntKind.i64.wrap ((8 : Int) * s4)))] : List Int))) else none))
  (some r0) := by kernel_rfl
noncomputable def ref02Number_sp : FnSpec TT := ⟨[.val (.int .i64)], [.own 5 (.int .u8)], fun x => ref02Number BIG x⟩
theorem ref02Number_ok : FnOk TT Tryz.prog 145 ref02Number_sp := fnOk_of (C := ref02Number_C) (by kernel_rfl) ref02Number_env Tryz.func145 (show Tryz.f145.body = some (bodyOf Tryz.f145) by kernel_rfl) (by kernel_rfl) (by kernel_rfl) (cuts := ref02Number_cuts) fun x y h => ⟨BIG, h⟩
noncomputable def ref02Bytes_C : Ctx TT := ⟨tyOf, [(145, ref02Number_sp.toCall)], 0, [], layOf⟩
theorem ref02Bytes_env : EnvOk TT Tryz.prog ref02Bytes_C.E := envG (fnCall_ok ref02Number_ok) (envNil)
def ref02Bytes_cuts : List (Pos × Cut) := []
noncomputable def ref02Bytes (n : Nat) (x0 : List Int) : Option (List Int) := topF TT Tryz.prog ref02Bytes_C ref02Bytes_cuts Tryz.f103 (bodyOf Tryz.f103) ⟨[], []⟩ [.val (.list (.int .u8))] [.own 5 (.int .u8)] n x0
theorem ref02Bytes_eq (n : Nat) (x0 : List Int) : ref02Bytes n x0 =
  obind (ref02Number BIG ((x0.length : Nat) : Int)) fun y1 =>
  if (y1.length + x0.length) * 1 ≤ 140737488355328 then (some (y1 ++ x0)) else none := by kernel_rfl
noncomputable def ref02Bytes_sp : FnSpec TT := ⟨[.val (.list (.int .u8))], [.own 5 (.int .u8)], fun x => ref02Bytes BIG x⟩
theorem ref02Bytes_ok : FnOk TT Tryz.prog 103 ref02Bytes_sp := fnOk_of (C := ref02Bytes_C) (by kernel_rfl) ref02Bytes_env Tryz.func103 (show Tryz.f103.body = some (bodyOf Tryz.f103) by kernel_rfl) (by kernel_rfl) (by kernel_rfl) (cuts := ref02Bytes_cuts) fun x y h => ⟨BIG, h⟩
noncomputable def ref19_part_C : Ctx TT := ⟨tyOf, [(145, ref02Number_sp.toCall), (103, ref02Bytes_sp.toCall)], 0, [(1, 1)], layOf⟩
theorem ref19_part_env : EnvOk TT Tryz.prog ref19_part_C.E := envG (fnCall_ok ref02Number_ok) (envG (fnCall_ok ref02Bytes_ok) (envNil))
def ref19_part_cuts : List (Pos × Cut) := []
noncomputable def ref19_part (n : Nat) (x0 : Bundle) : Option (List Int) := topF TT Tryz.prog ref19_part_C ref19_part_cuts Tryz.f100 (bodyOf Tryz.f100) ⟨[], []⟩ [.val (.user 3)] [.own 5 (.int .u8)] n x0
theorem ref19_part_eq (n : Nat) (x0 : Bundle) : ref19_part n x0 =
  obind (ref02Number BIG x0.Version) fun y1 =>
  obind (ref02Bytes BIG x0.Code) fun y2 =>
  if (y1.length + y2.length) * 1 ≤ 140737488355328 then (some (y1 ++ y2)) else none := by kernel_rfl
noncomputable def ref19_part_sp : FnSpec TT := ⟨[.val (.user 3)], [.own 5 (.int .u8)], fun x => ref19_part BIG x⟩
theorem ref19_part_ok : FnOk TT Tryz.prog 100 ref19_part_sp := fnOk_of (C := ref19_part_C) (by kernel_rfl) ref19_part_env Tryz.func100 (show Tryz.f100.body = some (bodyOf Tryz.f100) by kernel_rfl) (by kernel_rfl) (by kernel_rfl) (cuts := ref19_part_cuts) fun x y h => ⟨BIG, h⟩
noncomputable def ref04_prime_C : Ctx TT := ⟨tyOf, [], 0, [], layOf⟩
theorem ref04_prime_env : EnvOk TT Tryz.prog ref04_prime_C.E := envNil
def ref04_prime_cuts : List (Pos × Cut) := [([false, true, false, true], ⟨[0, 3], [], false, []⟩)]
noncomputable def ref04_prime (n : Nat) (x0 : Int) : Option (Bool) := topF TT Tryz.prog ref04_prime_C ref04_prime_cuts Tryz.f170 (bodyOf Tryz.f170) ⟨[], []⟩ [.val (.int .u64)] [.val (.bool)] n x0
noncomputable def ref04_prime_L0 (n : Nat) (s0 : Int) (s3 : Int) : Option (Bool) := cutF TT Tryz.prog ref04_prime_C ref04_prime_cuts Tryz.f170 (bodyOf Tryz.f170) ⟨[], []⟩ [.val (.int .u64)] [.val (.bool)] n [false, true, false, true] ⟨[(0, .cell ⟨.int .u64, s0⟩), (3, .cell ⟨.int .u64, s3⟩)], []⟩
theorem ref04_prime_eq (n : Nat) (x0 : Int) : ref04_prime n x0 =
  ref04_prime_L0 n x0 (2 : Int) := by kernel_rfl
theorem ref04_prime_L0_eq (n : Nat) (s0 : Int) (s3 : Int) : ref04_prime_L0 (n + 1) s0 s3 =
  forkB (decide ((IntKind.u64.wrap (s3 * s3)) ≤ s0))
  (if s3 = 0 then none else (forkB ((s0.tmod s3) == (0 : Int))
   (some false)
   (ref04_prime_L0 n s0 (IntKind.u64.wrap (s3 + (1 : Int))))))
  (some (decide (s0 > (1 : Int)))) := by kernel_rfl
noncomputable def ref04_prime_sp : FnSpec TT := ⟨[.val (.int .u64)], [.val (.bool)], fun x => ref04_prime BIG x⟩
theorem ref04_prime_ok : FnOk TT Tryz.prog 170 ref04_prime_sp := fnOk_of (C := ref04_prime_C) (by kernel_rfl) ref04_prime_env Tryz.func170 (show Tryz.f170.body = some (bodyOf Tryz.f170) by kernel_rfl) (by kernel_rfl) (by kernel_rfl) (cuts := ref04_prime_cuts) fun x y h => ⟨BIG, h⟩
noncomputable def ref04_times_C : Ctx TT := ⟨tyOf, [], 0, [], layOf⟩
theorem ref04_times_env : EnvOk TT Tryz.prog ref04_times_C.E := envNil
def ref04_times_cuts : List (Pos × Cut) := [([false, true, false, true, true], ⟨[0, 1, 5, 6], [], false, []⟩), ([false, true, false, true, false, false, true, false, false, true, false, true, true], ⟨[0, 1, 5, 6, 7, 8], [], false, []⟩)]
noncomputable def ref04_times (n : Nat) (x0 : List Int) (x1 : List Int) : Option (List Int) := topF TT Tryz.prog ref04_times_C ref04_times_cuts Tryz.f183 (bodyOf Tryz.f183) ⟨[], []⟩ [.val (.list (.int .u64)), .val (.list (.int .u64))] [.own 157 (.int .u64)] n (x0, x1)
noncomputable def ref04_times_L0 (n : Nat) (s0 : List Int) (s1 : List Int) (s6 : Int) (r0 : List Int) : Option (List Int) := cutF TT Tryz.prog ref04_times_C ref04_times_cuts Tryz.f183 (bodyOf Tryz.f183) ⟨[], []⟩ [.val (.list (.int .u64)), .val (.list (.int .u64))] [.own 157 (.int .u64)] n [false, true, false, true, true] ⟨[(0, .cell ⟨.list (.int .u64), s0⟩), (1, .cell ⟨.list (.int .u64), s1⟩), (5, .own 0), (6, .cell ⟨.int .i64, s6⟩)], [.row 157 (.int .u64) r0]⟩
noncomputable def ref04_times_L1 (n : Nat) (s0 : List Int) (s1 : List Int) (s6 : Int) (s7 : Int) (s8 : Int) (r0 : List Int) : Option (List Int) := cutF TT Tryz.prog ref04_times_C ref04_times_cuts Tryz.f183 (bodyOf Tryz.f183) ⟨[], []⟩ [.val (.list (.int .u64)), .val (.list (.int .u64))] [.own 157 (.int .u64)] n [false, true, false, true, false, false, true, false, false, true, false, true, true] ⟨[(0, .cell ⟨.list (.int .u64), s0⟩), (1, .cell ⟨.list (.int .u64), s1⟩), (5, .own 0), (6, .cell ⟨.int .i64, s6⟩), (7, .cell ⟨.int .u64, s7⟩), (8, .cell ⟨.int .i64, s8⟩)], [.row 157 (.int .u64) r0]⟩
theorem ref04_times_eq (n : Nat) (x0 : List Int) (x1 : List Int) : ref04_times n x0 x1 =
  if 0 ≤ IntKind.i64.wrap (((x0.length : Nat) : Int) + ((x1.length : Nat) : Int)) ∧ IntKind.i64.wrap (((x0.length : Nat) : Int) + ((x1.length : Nat) : Int)) ≤ IntKind.i64.wrap (((x0.length : Nat) : Int) + ((x1.length : Nat) : Int)) ∧ 8 * ((IntKind.i64.wrap (((x0.length : Nat) : Int) + ((x1.length : Nat) : Int))).toNat) ≤ 281474976710656 ∧ IntKind.i64.wrap (((x0.length : Nat) : Int) + ((x1.length : Nat) : Int)) ≤ 9223372036854775807 then (ref04_times_L0 n x0 x1 (0 : Int) (List.replicate ((IntKind.i64.wrap (((x0.length : Nat) : Int) + ((x1.length : Nat) : Int))).toNat) (0 : Int))) else none := by kernel_rfl
theorem ref04_times_L0_eq (n : Nat) (s0 : List Int) (s1 : List Int) (s6 : Int) (r0 : List Int) : ref04_times_L0 (n + 1) s0 s1 s6 r0 =
  forkB (decide (s6 < ((s0.length : Nat) : Int)))
  (ref04_times_L1 n s0 s1 s6 (0 : Int) (0 : Int) r0)
  (some r0) := by kernel_rfl
theorem ref04_times_L1_eq (n : Nat) (s0 : List Int) (s1 : List Int) (s6 : Int) (s7 : Int) (s8 : Int) (r0 : List Int) : ref04_times_L1 (n + 1) s0 s1 s6 s7 s8 r0 =
  forkB (decide (s8 < ((s1.length : Nat) : Int)))
  (if 0 ≤ IntKind.i64.wrap (s6 + s8) ∧ IntKind.i64.wrap (s6 + s8) < ((r0.length : Nat) : Int) then (if 0 ≤ s6 ∧ s6 < ((s0.length : Nat) : Int) then (if 0 ≤ s8 ∧ s8 < ((s1.length : Nat) : Int) then (if 0 ≤ IntKind.i64.wrap (s6 + s8) ∧ IntKind.i64.wrap (s6 + s8) < ((r0.length : Nat) : Int) then (ref04_times_L1 n s0 s1 s6 (sShr .u64 (IntKind.u64.wrap ((IntKind.u64.wrap ((r0.getD ((IntKind.i64.wrap (s6 + s8)).toNat) (0 : Int)) + (IntKind.u64.wrap ((s0.getD s6.toNat (0 : Int)) * (s1.getD s8.toNat (0 : Int)))))) + s7)) (32 : Int)) (IntKind.i64.wrap (s8 + (1 : Int))) (r0.set ((IntKind.i64.wrap (s6 + s8)).toNat) (bAnd .u64 (IntKind.u64.wrap ((IntKind.u64.wrap ((r0.getD ((IntKind.i64.wrap (s6 + s8)).toNat) (0 : Int)) + (IntKind.u64.wrap ((s0.getD s6.toNat (0 : Int)) * (s1.getD s8.toNat (0 : Int)))))) + s7)) (4294967295 : Int)))) else none) else none) else none) else none)
  (if 0 ≤ IntKind.i64.wrap (s6 + ((s1.length : Nat) : Int)) ∧ IntKind.i64.wrap (s6 + ((s1.length : Nat) : Int)) < ((r0.length : Nat) : Int) then (ref04_times_L0 n s0 s1 (IntKind.i64.wrap (s6 + (1 : Int))) (r0.set ((IntKind.i64.wrap (s6 + ((s1.length : Nat) : Int))).toNat) s7)) else none) := by kernel_rfl
noncomputable def ref04_times_sp : FnSpec TT := ⟨[.val (.list (.int .u64)), .val (.list (.int .u64))], [.own 157 (.int .u64)], fun x => ref04_times BIG x.1 x.2⟩
theorem ref04_times_ok : FnOk TT Tryz.prog 183 ref04_times_sp := fnOk_of (C := ref04_times_C) (by kernel_rfl) ref04_times_env Tryz.func183 (show Tryz.f183.body = some (bodyOf Tryz.f183) by kernel_rfl) (by kernel_rfl) (by kernel_rfl) (cuts := ref04_times_cuts) fun x y h => ⟨BIG, h⟩
noncomputable def ref04_above_C : Ctx TT := ⟨tyOf, [], 0, [], layOf⟩
theorem ref04_above_env : EnvOk TT Tryz.prog ref04_above_C.E := envNil
def ref04_above_cuts : List (Pos × Cut) := [([false, true, false, true], ⟨[0, 1, 5], [], false, []⟩), ([true, false, false, true, false, false, true, false, true], ⟨[0, 1, 5, 6, 7], [], false, []⟩), ([true, true, false, false, true, false, false, true, false, true], ⟨[0, 1, 5, 6, 7], [], false, []⟩)]
noncomputable def ref04_above (n : Nat) (x0 : List Int) (x1 : List Int) : Option (Bool) := topF TT Tryz.prog ref04_above_C ref04_above_cuts Tryz.f184 (bodyOf Tryz.f184) ⟨[], []⟩ [.val (.list (.int .u64)), .val (.list (.int .u64))] [.val (.bool)] n (x0, x1)
noncomputable def ref04_above_L0 (n : Nat) (s0 : List Int) (s1 : List Int) (s5 : Int) : Option (Bool) := cutF TT Tryz.prog ref04_above_C ref04_above_cuts Tryz.f184 (bodyOf Tryz.f184) ⟨[], []⟩ [.val (.list (.int .u64)), .val (.list (.int .u64))] [.val (.bool)] n [false, true, false, true] ⟨[(0, .cell ⟨.list (.int .u64), s0⟩), (1, .cell ⟨.list (.int .u64), s1⟩), (5, .cell ⟨.int .i64, s5⟩)], []⟩
noncomputable def ref04_above_J1 (n : Nat) (s0 : List Int) (s1 : List Int) (s5 : Int) (s6 : Int) (s7 : Int) : Option (Bool) := cutF TT Tryz.prog ref04_above_C ref04_above_cuts Tryz.f184 (bodyOf Tryz.f184) ⟨[], []⟩ [.val (.list (.int .u64)), .val (.list (.int .u64))] [.val (.bool)] n [true, false, false, true, false, false, true, false, true] ⟨[(0, .cell ⟨.list (.int .u64), s0⟩), (1, .cell ⟨.list (.int .u64), s1⟩), (5, .cell ⟨.int .i64, s5⟩), (6, .cell ⟨.int .u64, s6⟩), (7, .cell ⟨.int .u64, s7⟩)], []⟩
noncomputable def ref04_above_J2 (n : Nat) (s0 : List Int) (s1 : List Int) (s5 : Int) (s6 : Int) (s7 : Int) : Option (Bool) := cutF TT Tryz.prog ref04_above_C ref04_above_cuts Tryz.f184 (bodyOf Tryz.f184) ⟨[], []⟩ [.val (.list (.int .u64)), .val (.list (.int .u64))] [.val (.bool)] n [true, true, false, false, true, false, false, true, false, true] ⟨[(0, .cell ⟨.list (.int .u64), s0⟩), (1, .cell ⟨.list (.int .u64), s1⟩), (5, .cell ⟨.int .i64, s5⟩), (6, .cell ⟨.int .u64, s6⟩), (7, .cell ⟨.int .u64, s7⟩)], []⟩
theorem ref04_above_eq (n : Nat) (x0 : List Int) (x1 : List Int) : ref04_above n x0 x1 =
  ref04_above_L0 n x0 x1 (IntKind.i64.wrap ((gMax ((x0.length : Nat) : Int) ((x1.length : Nat) : Int)) - (1 : Int))) := by kernel_rfl
theorem ref04_above_L0_eq (n : Nat) (s0 : List Int) (s1 : List Int) (s5 : Int) : ref04_above_L0 (n + 1) s0 s1 s5 =
  forkB (decide (s5 ≥ (0 : Int)))
  (forkB (decide (s5 < ((s0.length : Nat) : Int)))
   (if 0 ≤ s5 ∧ s5 < ((s0.length : Nat) : Int) then (ref04_above_J1 n s0 s1 s5 (s0.getD s5.toNat (0 : Int)) (0 : Int)) else none)
   (ref04_above_J1 n s0 s1 s5 (0 : Int) (0 : Int)))
  (some false) := by kernel_rfl
theorem ref04_above_J1_eq (n : Nat) (s0 : List Int) (s1 : List Int) (s5 : Int) (s6 : Int) (s7 : Int) : ref04_above_J1 (n + 1) s0 s1 s5 s6 s7 =
  forkB (decide (s5 < ((s1.length : Nat) : Int)))
  (if 0 ≤ s5 ∧ s5 < ((s1.length : Nat) : Int) then (ref04_above_J2 n s0 s1 s5 s6 (s1.getD s5.toNat (0 : Int))) else none)
  (ref04_above_J2 n s0 s1 s5 s6 s7) := by kernel_rfl
theorem ref04_above_J2_eq (n : Nat) (s0 : List Int) (s1 : List Int) (s5 : Int) (s6 : Int) (s7 : Int) : ref04_above_J2 (n + 1) s0 s1 s5 s6 s7 =
  forkB (s6 != s7)
  (some (decide (s6 > s7)))
  (ref04_above_L0 n s0 s1 (IntKind.i64.wrap (s5 - (1 : Int)))) := by kernel_rfl
noncomputable def ref04_above_sp : FnSpec TT := ⟨[.val (.list (.int .u64)), .val (.list (.int .u64))], [.val (.bool)], fun x => ref04_above BIG x.1 x.2⟩
theorem ref04_above_ok : FnOk TT Tryz.prog 184 ref04_above_sp := fnOk_of (C := ref04_above_C) (by kernel_rfl) ref04_above_env Tryz.func184 (show Tryz.f184.body = some (bodyOf Tryz.f184) by kernel_rfl) (by kernel_rfl) (by kernel_rfl) (cuts := ref04_above_cuts) fun x y h => ⟨BIG, h⟩
noncomputable def ref04_root_C : Ctx TT := ⟨tyOf, [(183, ref04_times_sp.toCall), (184, ref04_above_sp.toCall)], 0, [], layOf⟩
theorem ref04_root_env : EnvOk TT Tryz.prog ref04_root_C.E := envG (fnCall_ok ref04_times_ok) (envG (fnCall_ok ref04_above_ok) (envNil))
def ref04_root_cuts : List (Pos × Cut) := [([false, true, false, true, true, true, true], ⟨[1, 5, 6, 7], [], false, []⟩), ([true, false, false, true, false, true, true, true, true], ⟨[1, 5, 6, 7], [], false, []⟩), ([false, true, false, true, true, true, false, false, true, false, false, true, false, true, true, true, true], ⟨[1, 5, 6, 7, 8, 9, 10, 11], [], false, []⟩)]
noncomputable def ref04_root (n : Nat) (x0 : Int) (x1 : Int) : Option (Int) := topF TT Tryz.prog ref04_root_C ref04_root_cuts Tryz.f171 (bodyOf Tryz.f171) ⟨[], []⟩ [.val (.int .u64), .val (.int .i64)] [.val (.int .u64)] n (x0, x1)
noncomputable def ref04_root_L0 (n : Nat) (s1 : Int) (s6 : Int) (s7 : Int) (r0 : List Int) : Option (Int) := cutF TT Tryz.prog ref04_root_C ref04_root_cuts Tryz.f171 (bodyOf Tryz.f171) ⟨[], []⟩ [.val (.int .u64), .val (.int .i64)] [.val (.int .u64)] n [false, true, false, true, true, true, true] ⟨[(1, .cell ⟨.int .i64, s1⟩), (5, .own 0), (6, .cell ⟨.int .u64, s6⟩), (7, .cell ⟨.int .i64, s7⟩)], [.row 157 (.int .u64) r0]⟩
noncomputable def ref04_root_L2 (n : Nat) (s1 : Int) (s6 : Int) (s7 : Int) (s8 : Int) (s11 : Int) (r0 : List Int) (r1 : List Int) : Option (Int) := cutF TT Tryz.prog ref04_root_C ref04_root_cuts Tryz.f171 (bodyOf Tryz.f171) ⟨[], []⟩ [.val (.int .u64), .val (.int .i64)] [.val (.int .u64)] n [false, true, false, true, true, true, false, false, true, false, false, true, false, true, true, true, true] ⟨[(1, .cell ⟨.int .i64, s1⟩), (5, .own 0), (6, .cell ⟨.int .u64, s6⟩), (7, .cell ⟨.int .i64, s7⟩), (8, .cell ⟨.int .u64, s8⟩), (9, .own 1), (10, .own 1), (11, .cell ⟨.int .i64, s11⟩)], [.row 157 (.int .u64) r0, .row 157 (.int .u64) r1]⟩
noncomputable def ref04_root_L2a (n : Nat) (s1 : Int) (s6 : Int) (s7 : Int) (s8 : Int) (s11 : Int) (r0 : List Int) (r1 : List Int) (r2 : List Int) : Option (Int) := cutF TT Tryz.prog ref04_root_C ref04_root_cuts Tryz.f171 (bodyOf Tryz.f171) ⟨[], []⟩ [.val (.int .u64), .val (.int .i64)] [.val (.int .u64)] n [false, true, false, true, true, true, false, false, true, false, false, true, false, true, true, true, true] ⟨[(1, .cell ⟨.int .i64, s1⟩), (5, .own 0), (6, .cell ⟨.int .u64, s6⟩), (7, .cell ⟨.int .i64, s7⟩), (8, .cell ⟨.int .u64, s8⟩), (9, .own 1), (10, .own 2), (11, .cell ⟨.int .i64, s11⟩)], [.row 157 (.int .u64) r0, .row 157 (.int .u64) r1, .row 157 (.int .u64) r2]⟩
noncomputable def ref04_root_J1 (n : Nat) (s1 : Int) (s6 : Int) (s7 : Int) (r0 : List Int) : Option (Int) := cutF TT Tryz.prog ref04_root_C ref04_root_cuts Tryz.f171 (bodyOf Tryz.f171) ⟨[], []⟩ [.val (.int .u64), .val (.int .i64)] [.val (.int .u64)] n [true, false, false, true, false, true, true, true, true] ⟨[(1, .cell ⟨.int .i64, s1⟩), (5, .own 0), (6, .cell ⟨.int .u64, s6⟩), (7, .cell ⟨.int .i64, s7⟩)], [.row 157 (.int .u64) r0]⟩
theorem ref04_root_eq (n : Nat) (x0 : Int) (x1 : Int) : ref04_root n x0 x1 =
  if 0 ≤ x1 ∧ x1 ≤ x1 ∧ 8 * x1.toNat ≤ 281474976710656 ∧ x1 ≤ 9223372036854775807 then (if ((List.replicate x1.toNat (0 : Int)).length + 1) * 8 ≤ 140737488355328 then (ref04_root_L0 n x1 (0 : Int) (36 : Int) ((List.replicate x1.toNat (0 : Int)) ++ ([x0] : List Int))) else none) else none := by kernel_rfl
theorem ref04_root_L0_eq (n : Nat) (s1 : Int) (s6 : Int) (s7 : Int) (r0 : List Int) : ref04_root_L0 (n + 1) s1 s6 s7 r0 =
  forkB (decide (s7 ≥ (0 : Int)))
  (if IntKind.u64.wrap s7 < 0 then none else (ref04_root_L2 n s1 s6 s7 (bOr .u64 s6 (sShl .u64 (1 : Int) (IntKind.u64.wrap s7))) (1 : Int) r0 ([bAnd .u64 (bOr .u64 s6 (sShl .u64 (1 : Int) (IntKind.u64.wrap s7))) (4294967295 : Int), sShr .u64 (bOr .u64 s6 (sShl .u64 (1 : Int) (IntKind.u64.wrap s7))) (32 : Int)] : List Int)))
  (some (bAnd .u64 s6 (4294967295 : Int))) := by kernel_rfl
theorem ref04_root_L2_eq (n : Nat) (s1 : Int) (s6 : Int) (s7 : Int) (s8 : Int) (s11 : Int) (r0 : List Int) (r1 : List Int) : ref04_root_L2 (n + 1) s1 s6 s7 s8 s11 r0 r1 =
  forkB (decide (s11 < s1))
  (obind (ref04_times BIG r1 r1) fun y1 =>
   ref04_root_L2a n s1 s6 s7 s8 (IntKind.i64.wrap (s11 + (1 : Int))) r0 r1 y1)
  (obind (ref04_above BIG r1 r0) fun y2 =>
   forkB (!y2)
   (ref04_root_J1 n s1 s8 s7 r0)
   (ref04_root_J1 n s1 s6 s7 r0)) := by kernel_rfl
theorem ref04_root_L2a_eq (n : Nat) (s1 : Int) (s6 : Int) (s7 : Int) (s8 : Int) (s11 : Int) (r0 : List Int) (r1 : List Int) (r2 : List Int) : ref04_root_L2a (n + 1) s1 s6 s7 s8 s11 r0 r1 r2 =
  forkB (decide (s11 < s1))
  (obind (ref04_times BIG r2 r1) fun y1 =>
   ref04_root_L2a n s1 s6 s7 s8 (IntKind.i64.wrap (s11 + (1 : Int))) r0 r1 y1)
  (obind (ref04_above BIG r2 r0) fun y2 =>
   forkB (!y2)
   (ref04_root_J1 n s1 s8 s7 r0)
   (ref04_root_J1 n s1 s6 s7 r0)) := by kernel_rfl
theorem ref04_root_J1_eq (n : Nat) (s1 : Int) (s6 : Int) (s7 : Int) (r0 : List Int) : ref04_root_J1 (n + 1) s1 s6 s7 r0 =
  ref04_root_L0 n s1 s6 (IntKind.i64.wrap (s7 - (1 : Int))) r0 := by kernel_rfl
noncomputable def ref04_root_sp : FnSpec TT := ⟨[.val (.int .u64), .val (.int .i64)], [.val (.int .u64)], fun x => ref04_root BIG x.1 x.2⟩
theorem ref04_root_ok : FnOk TT Tryz.prog 171 ref04_root_sp := fnOk_of (C := ref04_root_C) (by kernel_rfl) ref04_root_env Tryz.func171 (show Tryz.f171.body = some (bodyOf Tryz.f171) by kernel_rfl) (by kernel_rfl) (by kernel_rfl) (cuts := ref04_root_cuts) fun x y h => ⟨BIG, h⟩
noncomputable def ref04_roots_C : Ctx TT := ⟨tyOf, [(170, ref04_prime_sp.toCall), (171, ref04_root_sp.toCall)], 0, [], layOf⟩
theorem ref04_roots_env : EnvOk TT Tryz.prog ref04_roots_C.E := envG (fnCall_ok ref04_prime_ok) (envG (fnCall_ok ref04_root_ok) (envNil))
def ref04_roots_cuts : List (Pos × Cut) := [([false, true, false, true, true], ⟨[0, 1, 5, 6], [(5, 157, .int .u64)], false, []⟩), ([true, false, false, true, false, true, true], ⟨[0, 1, 5, 6], [], false, []⟩)]
noncomputable def ref04_roots (n : Nat) (x0 : Int) (x1 : Int) : Option (List Int) := topF TT Tryz.prog ref04_roots_C ref04_roots_cuts Tryz.f141 (bodyOf Tryz.f141) ⟨[], []⟩ [.val (.int .i64), .val (.int .i64)] [.own 157 (.int .u64)] n (x0, x1)
noncomputable def ref04_roots_L0 (n : Nat) (s0 : Int) (s1 : Int) (s6 : Int) (r0 : List Int) : Option (List Int) := cutF TT Tryz.prog ref04_roots_C ref04_roots_cuts Tryz.f141 (bodyOf Tryz.f141) ⟨[], []⟩ [.val (.int .i64), .val (.int .i64)] [.own 157 (.int .u64)] n [false, true, false, true, true] ⟨[(0, .cell ⟨.int .i64, s0⟩), (1, .cell ⟨.int .i64, s1⟩), (5, .own 0), (6, .cell ⟨.int .u64, s6⟩)], [.row 157 (.int .u64) r0]⟩
noncomputable def ref04_roots_J1 (n : Nat) (s0 : Int) (s1 : Int) (s6 : Int) (r0 : List Int) : Option (List Int) := cutF TT Tryz.prog ref04_roots_C ref04_roots_cuts Tryz.f141 (bodyOf Tryz.f141) ⟨[], []⟩ [.val (.int .i64), .val (.int .i64)] [.own 157 (.int .u64)] n [true, false, false, true, false, true, true] ⟨[(0, .cell ⟨.int .i64, s0⟩), (1, .cell ⟨.int .i64, s1⟩), (5, .own 0), (6, .cell ⟨.int .u64, s6⟩)], [.row 157 (.int .u64) r0]⟩
theorem ref04_roots_eq (n : Nat) (x0 : Int) (x1 : Int) : ref04_roots n x0 x1 =
  ref04_roots_L0 n x0 x1 (2 : Int) ([] : List Int) := by kernel_rfl
theorem ref04_roots_L0_eq (n : Nat) (s0 : Int) (s1 : Int) (s6 : Int) (r0 : List Int) : ref04_roots_L0 (n + 1) s0 s1 s6 r0 =
  forkB (decide (((r0.length : Nat) : Int) < s0))
  (obind (ref04_prime BIG s6) fun y1 =>
   forkB y1
   (obind (ref04_root BIG s6 s1) fun y2 =>
    if (r0.length + 1) * 8 ≤ 140737488355328 then (ref04_roots_J1 n s0 s1 s6 (r0 ++ ([y2] : List Int))) else none)
   (ref04_roots_J1 n s0 s1 s6 r0))
  (some r0) := by kernel_rfl
theorem ref04_roots_J1_eq (n : Nat) (s0 : Int) (s1 : Int) (s6 : Int) (r0 : List Int) : ref04_roots_J1 (n + 1) s0 s1 s6 r0 =
  ref04_roots_L0 n s0 s1 (IntKind.u64.wrap (s6 + (1 : Int))) r0 := by kernel_rfl
noncomputable def ref04_roots_sp : FnSpec TT := ⟨[.val (.int .i64), .val (.int .i64)], [.own 157 (.int .u64)], fun x => ref04_roots BIG x.1 x.2⟩
theorem ref04_roots_ok : FnOk TT Tryz.prog 141 ref04_roots_sp := fnOk_of (C := ref04_roots_C) (by kernel_rfl) ref04_roots_env Tryz.func141 (show Tryz.f141.body = some (bodyOf Tryz.f141) by kernel_rfl) (by kernel_rfl) (by kernel_rfl) (cuts := ref04_roots_cuts) fun x y h => ⟨BIG, h⟩
noncomputable def ref04_message_C : Ctx TT := ⟨tyOf, [], 0, [], layOf⟩
theorem ref04_message_env : EnvOk TT Tryz.prog ref04_message_C.E := envNil
def ref04_message_cuts : List (Pos × Cut) := [([false, false, true, true], ⟨[0, 3], [], false, []⟩), ([false, true, false, true, true, true, true], ⟨[3, 4, 5], [], false, []⟩)]
noncomputable def ref04_message (n : Nat) (x0 : List Int) : Option (List Int) := topF TT Tryz.prog ref04_message_C ref04_message_cuts Tryz.f142 (bodyOf Tryz.f142) ⟨[], []⟩ [.val (.list (.int .u8))] [.own 5 (.int .u8)] n x0
noncomputable def ref04_message_L0 (n : Nat) (s0 : List Int) (r0 : List Int) : Option (List Int) := cutF TT Tryz.prog ref04_message_C ref04_message_cuts Tryz.f142 (bodyOf Tryz.f142) ⟨[], []⟩ [.val (.list (.int .u8))] [.own 5 (.int .u8)] n [false, false, true, true] ⟨[(0, .cell ⟨.list (.int .u8), s0⟩), (3, .own 0)], [.row 5 (.int .u8) r0]⟩
noncomputable def ref04_message_L1 (n : Nat) (s4 : Int) (s5 : Int) (r0 : List Int) : Option (List Int) := cutF TT Tryz.prog ref04_message_C ref04_message_cuts Tryz.f142 (bodyOf Tryz.f142) ⟨[], []⟩ [.val (.list (.int .u8))] [.own 5 (.int .u8)] n [false, true, false, true, true, true, true] ⟨[(3, .own 0), (4, .cell ⟨.int .u64, s4⟩), (5, .cell ⟨.int .i64, s5⟩)], [.row 5 (.int .u8) r0]⟩
theorem ref04_message_eq (n : Nat) (x0 : List Int) : ref04_message n x0 =
  if (0 + x0.length) * 1 ≤ 140737488355328 then (if ((([] : List Int) ++ x0).length + 1) * 1 ≤ 140737488355328 then (ref04_message_L0 n x0 ((([] : List Int) ++ x0) ++ ([(128 : Int)] : List Int))) else none) else none := by kernel_rfl
theorem ref04_message_L0_eq (n : Nat) (s0 : List Int) (r0 : List Int) : ref04_message_L0 (n + 1) s0 r0 =
  forkB ((((r0.length : Nat) : Int).tmod (64 : Int)) != (56 : Int))
  (if (r0.length + 1) * 1 ≤ 140737488355328 then (ref04_message_L0 n s0 (r0 ++ ([(0 : Int)] : List Int))) else none)
  (ref04_message_L1 n (IntKind.u64.wrap ((IntKind.u64.wrap ((s0.length : Nat) : Int)) * (8 : Int))) (7 : Int) r0) := by kernel_rfl
theorem ref04_message_L1_eq (n : Nat) (s4 : Int) (s5 : Int) (r0 : List Int) : ref04_message_L1 (n + 1) s4 s5 r0 =
  forkB (decide (s5 ≥ (0 : Int)))
  (if IntKind.u64.wrap (IntKind.i64.wrap ((8 : Int) * s5)) < 0 then none else (if (r0.length + 1) * 1 ≤ 140737488355328 then (ref04_message_L1 n s4 (IntKind.i64.wrap (s5 - (1 : Int))) (r0 ++ ([IntKind.u8.wrap (sShr .u64 s4 (IntKind.u64.wrap (IntKind.i64.wrap ((8 : Int) * s5))))] : List Int))) else none))
  (some r0) := by kernel_rfl
noncomputable def ref04_message_sp : FnSpec TT := ⟨[.val (.list (.int .u8))], [.own 5 (.int .u8)], fun x => ref04_message BIG x⟩
theorem ref04_message_ok : FnOk TT Tryz.prog 142 ref04_message_sp := fnOk_of (C := ref04_message_C) (by kernel_rfl) ref04_message_env Tryz.func142 (show Tryz.f142.body = some (bodyOf Tryz.f142) by kernel_rfl) (by kernel_rfl) (by kernel_rfl) (cuts := ref04_message_cuts) fun x y h => ⟨BIG, h⟩
noncomputable def ref04_turned_C : Ctx TT := ⟨tyOf, [], 0, [], layOf⟩
theorem ref04_turned_env : EnvOk TT Tryz.prog ref04_turned_C.E := envNil
def ref04_turned_cuts : List (Pos × Cut) := []
noncomputable def ref04_turned (n : Nat) (x0 : Int) (x1 : Int) : Option (Int) := topF TT Tryz.prog ref04_turned_C ref04_turned_cuts Tryz.f144 (bodyOf Tryz.f144) ⟨[], []⟩ [.val (.int .u64), .val (.int .u64)] [.val (.int .u64)] n (x0, x1)
theorem ref04_turned_eq (n : Nat) (x0 : Int) (x1 : Int) : ref04_turned n x0 x1 =
  if x1 < 0 then none else (if IntKind.u64.wrap ((32 : Int) - x1) < 0 then none else (some (bAnd .u64 (bOr .u64 (sShr .u64 x0 x1) (sShl .u64 x0 (IntKind.u64.wrap ((32 : Int) - x1)))) (4294967295 : Int)))) := by kernel_rfl
noncomputable def ref04_turned_sp : FnSpec TT := ⟨[.val (.int .u64), .val (.int .u64)], [.val (.int .u64)], fun x => ref04_turned BIG x.1 x.2⟩
theorem ref04_turned_ok : FnOk TT Tryz.prog 144 ref04_turned_sp := fnOk_of (C := ref04_turned_C) (by kernel_rfl) ref04_turned_env Tryz.func144 (show Tryz.f144.body = some (bodyOf Tryz.f144) by kernel_rfl) (by kernel_rfl) (by kernel_rfl) (cuts := ref04_turned_cuts) fun x y h => ⟨BIG, h⟩
noncomputable def ref04_moved_C : Ctx TT := ⟨tyOf, [], 0, [], layOf⟩
theorem ref04_moved_env : EnvOk TT Tryz.prog ref04_moved_C.E := envNil
def ref04_moved_cuts : List (Pos × Cut) := []
noncomputable def ref04_moved (n : Nat) (x0 : Int) (x1 : Int) : Option (Int) := topF TT Tryz.prog ref04_moved_C ref04_moved_cuts Tryz.f172 (bodyOf Tryz.f172) ⟨[], []⟩ [.val (.int .u64), .val (.int .u64)] [.val (.int .u64)] n (x0, x1)
theorem ref04_moved_eq (n : Nat) (x0 : Int) (x1 : Int) : ref04_moved n x0 x1 =
  if x1 < 0 then none else (some (sShr .u64 x0 x1)) := by kernel_rfl
noncomputable def ref04_moved_sp : FnSpec TT := ⟨[.val (.int .u64), .val (.int .u64)], [.val (.int .u64)], fun x => ref04_moved BIG x.1 x.2⟩
theorem ref04_moved_ok : FnOk TT Tryz.prog 172 ref04_moved_sp := fnOk_of (C := ref04_moved_C) (by kernel_rfl) ref04_moved_env Tryz.func172 (show Tryz.f172.body = some (bodyOf Tryz.f172) by kernel_rfl) (by kernel_rfl) (by kernel_rfl) (cuts := ref04_moved_cuts) fun x y h => ⟨BIG, h⟩
noncomputable def ref04_words_C : Ctx TT := ⟨tyOf, [(144, ref04_turned_sp.toCall), (172, ref04_moved_sp.toCall)], 0, [(6, 1), (13, 1)], layOf⟩
theorem ref04_words_env : EnvOk TT Tryz.prog ref04_words_C.E := envG (fnCall_ok ref04_turned_ok) (envG (fnCall_ok ref04_moved_ok) (envNil))
def ref04_words_cuts : List (Pos × Cut) := [([false, true, false, true, true], ⟨[0, 3, 4], [(3, 157, .int .u64)], false, []⟩), ([false, true, false, true, true, true], ⟨[3, 6], [], false, []⟩)]
noncomputable def ref04_words (n : Nat) (x0 : List Int) : Option (List Int) := topF TT Tryz.prog ref04_words_C ref04_words_cuts Tryz.f143 (bodyOf Tryz.f143) ⟨[], []⟩ [.val (.list (.int .u8))] [.own 157 (.int .u64)] n x0
noncomputable def ref04_words_L0 (n : Nat) (s0 : List Int) (s4 : Int) (r0 : List Int) : Option (List Int) := cutF TT Tryz.prog ref04_words_C ref04_words_cuts Tryz.f143 (bodyOf Tryz.f143) ⟨[], []⟩ [.val (.list (.int .u8))] [.own 157 (.int .u64)] n [false, true, false, true, true] ⟨[(0, .cell ⟨.list (.int .u8), s0⟩), (3, .own 0), (4, .cell ⟨.int .i64, s4⟩)], [.row 157 (.int .u64) r0]⟩
noncomputable def ref04_words_L1 (n : Nat) (s6 : Int) (r0 : List Int) : Option (List Int) := cutF TT Tryz.prog ref04_words_C ref04_words_cuts Tryz.f143 (bodyOf Tryz.f143) ⟨[], []⟩ [.val (.list (.int .u8))] [.own 157 (.int .u64)] n [false, true, false, true, true, true] ⟨[(3, .own 0), (6, .cell ⟨.int .i64, s6⟩)], [.row 157 (.int .u64) r0]⟩
theorem ref04_words_eq (n : Nat) (x0 : List Int) : ref04_words n x0 =
  ref04_words_L0 n x0 (0 : Int) ([] : List Int) := by kernel_rfl
theorem ref04_words_L0_eq (n : Nat) (s0 : List Int) (s4 : Int) (r0 : List Int) : ref04_words_L0 (n + 1) s0 s4 r0 =
  forkB (decide (s4 < (16 : Int)))
  (if 0 ≤ IntKind.i64.wrap ((4 : Int) * s4) ∧ IntKind.i64.wrap ((4 : Int) * s4) ≤ IntKind.i64.wrap ((IntKind.i64.wrap ((4 : Int) * s4)) + (4 : Int)) ∧ IntKind.i64.wrap ((IntKind.i64.wrap ((4 : Int) * s4)) + (4 : Int)) ≤ ((s0.length : Nat) : Int) then (if 0 ≤ (0 : Int) ∧ (0 : Int) < (((List.take (((IntKind.i64.wrap ((IntKind.i64.wrap ((4 : Int) * s4)) + (4 : Int))).toNat) - ((IntKind.i64.wrap ((4 : Int) * s4)).toNat)) (List.drop ((IntKind.i64.wrap ((4 : Int) * s4)).toNat) s0)).length : Nat) : Int) then (if 0 ≤ (1 : Int) ∧ (1 : Int) < (((List.take (((IntKind.i64.wrap ((IntKind.i64.wrap ((4 : Int) * s4)) + (4 : Int))).toNat) - ((IntKind.i64.wrap ((4 : Int) * s4)).toNat)) (List.drop ((IntKind.i64.wrap ((4 : Int) * s4)).toNat) s0)).length : Nat) : Int) then (if 0 ≤ (2 : Int) ∧ (2 : Int) < (((List.take (((IntKind.i64.wrap ((IntKind.i64.wrap ((4 : Int) * s4)) + (4 : Int))).toNat) - ((IntKind.i64.wrap ((4 : Int) * s4)).toNat)) (List.drop ((IntKind.i64.wrap ((4 : Int) * s4)).toNat) s0)).length : Nat) : Int) then (if 0 ≤ (3 : Int) ∧ (3 : Int) < (((List.take (((IntKind.i64.wrap ((IntKind.i64.wrap ((4 : Int) * s4)) + (4 : Int))).toNat) - ((IntKind.i64.wrap ((4 : Int) * s4)).toNat)) (List.drop ((IntKind.i64.wrap ((4 : Int) * s4)).toNat) s0)).length : Nat) : Int) then (if (r0.length + 1) * 8 ≤ 140737488355328 then (ref04_words_L0 n s0 (IntKind.i64.wrap (s4 + (1 : Int))) (r0 ++ ([bOr .u64 (bOr .u64 (bOr .u64 (sShl .u64 (IntKind.u64.wrap ((List.take (((IntKind.i64.wrap ((IntKind.i64.wrap ((4 : Int) * s4)) + (4 : Int))).toNat) - ((IntKind.i64.wrap ((4 : Int) * s4)).toNat)) (List.drop ((IntKind.i64.wrap ((4 : Int) * s4)).toNat) s0)).getD 0 (0 : Int))) (24 : Int)) (sShl .u64 (IntKind.u64.wrap ((List.take (((IntKind.i64.wrap ((IntKind.i64.wrap ((4 : Int) * s4)) + (4 : Int))).toNat) - ((IntKind.i64.wrap ((4 : Int) * s4)).toNat)) (List.drop ((IntKind.i64.wrap ((4 : Int) * s4)).toNat) s0)).getD 1 (0 : Int))) (16 : Int))) (sShl .u64 (IntKind.u64.wrap ((List.take (((IntKind.i64.wrap ((IntKind.i64.wrap ((4 : Int) * s4)) + (4 : Int))).toNat) - ((IntKind.i64.wrap ((4 : Int) * s4)).toNat)) (List.drop ((IntKind.i64.wrap ((4 : Int) * s4)).toNat) s0)).getD 2 (0 : Int))) (8 : Int))) (IntKind.u64.wrap ((List.take (((IntKind.i64.wrap ((IntKind.i64.wrap ((4 : Int) * s4)) + (4 : Int))).toNat) - ((IntKind.i64.wrap ((4 : Int) * s4)).toNat)) (List.drop ((IntKind.i64.wrap ((4 : Int) * s4)).toNat) s0)).getD 3 (0 : Int)))] : List Int))) else none) else none) else none) else none) else none) else none)
  (ref04_words_L1 n (16 : Int) r0) := by kernel_rfl
theorem ref04_words_L1_eq (n : Nat) (s6 : Int) (r0 : List Int) : ref04_words_L1 (n + 1) s6 r0 =
  forkB (decide (s6 < (64 : Int)))
  (if 0 ≤ IntKind.i64.wrap (s6 - (15 : Int)) ∧ IntKind.i64.wrap (s6 - (15 : Int)) < ((r0.length : Nat) : Int) then (if 0 ≤ IntKind.i64.wrap (s6 - (2 : Int)) ∧ IntKind.i64.wrap (s6 - (2 : Int)) < ((r0.length : Nat) : Int) then (obind (ref04_turned BIG (r0.getD ((IntKind.i64.wrap (s6 - (15 : Int))).toNat) (0 : Int)) (7 : Int)) fun y1 =>
   obind (ref04_turned BIG (r0.getD ((IntKind.i64.wrap (s6 - (15 : Int))).toNat) (0 : Int)) (18 : Int)) fun y2 =>
   obind (ref04_moved BIG (r0.getD ((IntKind.i64.wrap (s6 - (15 : Int))).toNat) (0 : Int)) (3 : Int)) fun y3 =>
   obind (ref04_turned BIG (r0.getD ((IntKind.i64.wrap (s6 - (2 : Int))).toNat) (0 : Int)) (17 : Int)) fun y4 =>
   obind (ref04_turned BIG (r0.getD ((IntKind.i64.wrap (s6 - (2 : Int))).toNat) (0 : Int)) (19 : Int)) fun y5 =>
   obind (ref04_moved BIG (r0.getD ((IntKind.i64.wrap (s6 - (2 : Int))).toNat) (0 : Int)) (10 : Int)) fun y6 =>
   if 0 ≤ IntKind.i64.wrap (s6 - (16 : Int)) ∧ IntKind.i64.wrap (s6 - (16 : Int)) < ((r0.length : Nat) : Int) then (if 0 ≤ IntKind.i64.wrap (s6 - (7 : Int)) ∧ IntKind.i64.wrap (s6 - (7 : Int)) < ((r0.length : Nat) : Int) then (if (r0.length + 1) * 8 ≤ 140737488355328 then (ref04_words_L1 n (IntKind.i64.wrap (s6 + (1 : Int))) (r0 ++ ([bAnd .u64 (IntKind.u64.wrap ((IntKind.u64.wrap ((IntKind.u64.wrap ((r0.getD ((IntKind.i64.wrap (s6 - (16 : Int))).toNat) (0 : Int)) + (bXor .u64 (bXor .u64 y1 y2) y3))) + (r0.getD ((IntKind.i64.wrap (s6 - (7 : Int))).toNat) (0 : Int)))) + (bXor .u64 (bXor .u64 y4 y5) y6))) (4294967295 : Int)] : List Int))) else none) else none) else none) else none) else none)
  (some r0) := by kernel_rfl
noncomputable def ref04_words_sp : FnSpec TT := ⟨[.val (.list (.int .u8))], [.own 157 (.int .u64)], fun x => ref04_words BIG x⟩
theorem ref04_words_ok : FnOk TT Tryz.prog 143 ref04_words_sp := fnOk_of (C := ref04_words_C) (by kernel_rfl) ref04_words_env Tryz.func143 (show Tryz.f143.body = some (bodyOf Tryz.f143) by kernel_rfl) (by kernel_rfl) (by kernel_rfl) (cuts := ref04_words_cuts) fun x y h => ⟨BIG, h⟩
noncomputable def ref04Sum_C : Ctx TT := ⟨tyOf, [(141, ref04_roots_sp.toCall), (142, ref04_message_sp.toCall), (143, ref04_words_sp.toCall), (144, ref04_turned_sp.toCall)], 0, [(22, 1), (27, 1)], layOf⟩
theorem ref04Sum_env : EnvOk TT Tryz.prog ref04Sum_C.E := envG (fnCall_ok ref04_roots_ok) (envG (fnCall_ok ref04_message_ok) (envG (fnCall_ok ref04_words_ok) (envG (fnCall_ok ref04_turned_ok) (envNil))))
def ref04Sum_cuts : List (Pos × Cut) := [([false, true, false, true, true, true, true], ⟨[3, 4, 5, 6], [], false, []⟩), ([false, true, false, true, true, false, false, true, false, false, true, false, true, true, true, true], ⟨[3, 4, 5, 6, 7, 8, 9], [], false, []⟩), ([false, true, true, true, true, false, false, true, false, false, true, false, true, true, true, true], ⟨[3, 4, 5, 6, 8, 16], [], false, []⟩), ([false, true, false, true, true, true, true, true, true], ⟨[3, 17, 18], [(17, 5, .int .u8)], false, []⟩)]
noncomputable def ref04Sum (n : Nat) (x0 : List Int) : Option (List Int) := topF TT Tryz.prog ref04Sum_C ref04Sum_cuts Tryz.f99 (bodyOf Tryz.f99) ⟨[], []⟩ [.val (.list (.int .u8))] [.own 5 (.int .u8)] n x0
noncomputable def ref04Sum_L0 (n : Nat) (s6 : Int) (r0 : List Int) (r1 : List Int) (r2 : List Int) : Option (List Int) := cutF TT Tryz.prog ref04Sum_C ref04Sum_cuts Tryz.f99 (bodyOf Tryz.f99) ⟨[], []⟩ [.val (.list (.int .u8))] [.own 5 (.int .u8)] n [false, true, false, true, true, true, true] ⟨[(3, .own 0), (4, .own 1), (5, .own 2), (6, .cell ⟨.int .i64, s6⟩)], [.row 157 (.int .u64) r0, .row 157 (.int .u64) r1, .row 5 (.int .u8) r2]⟩
noncomputable def ref04Sum_L1 (n : Nat) (s6 : Int) (s9 : Int) (r0 : List Int) (r1 : List Int) (r2 : List Int) (r3 : List Int) (r4 : List Int) : Option (List Int) := cutF TT Tryz.prog ref04Sum_C ref04Sum_cuts Tryz.f99 (bodyOf Tryz.f99) ⟨[], []⟩ [.val (.list (.int .u8))] [.own 5 (.int .u8)] n [false, true, false, true, true, false, false, true, false, false, true, false, true, true, true, true] ⟨[(3, .own 0), (4, .own 1), (5, .own 2), (6, .cell ⟨.int .i64, s6⟩), (7, .own 3), (8, .own 4), (9, .cell ⟨.int .i64, s9⟩)], [.row 157 (.int .u64) r0, .row 157 (.int .u64) r1, .row 5 (.int .u8) r2, .row 157 (.int .u64) r3, .row 157 (.int .u64) r4]⟩
noncomputable def ref04Sum_L3 (n : Nat) (s18 : Int) (r0 : List Int) (r1 : List Int) : Option (List Int) := cutF TT Tryz.prog ref04Sum_C ref04Sum_cuts Tryz.f99 (bodyOf Tryz.f99) ⟨[], []⟩ [.val (.list (.int .u8))] [.own 5 (.int .u8)] n [false, true, false, true, true, true, true, true, true] ⟨[(3, .own 0), (17, .own 1), (18, .cell ⟨.int .i64, s18⟩)], [.row 157 (.int .u64) r0, .row 5 (.int .u8) r1]⟩
noncomputable def ref04Sum_L2 (n : Nat) (s6 : Int) (s16 : Int) (r0 : List Int) (r1 : List Int) (r2 : List Int) (r3 : List Int) : Option (List Int) := cutF TT Tryz.prog ref04Sum_C ref04Sum_cuts Tryz.f99 (bodyOf Tryz.f99) ⟨[], []⟩ [.val (.list (.int .u8))] [.own 5 (.int .u8)] n [false, true, true, true, true, false, false, true, false, false, true, false, true, true, true, true] ⟨[(3, .own 0), (4, .own 1), (5, .own 2), (6, .cell ⟨.int .i64, s6⟩), (8, .own 3), (16, .cell ⟨.int .i64, s16⟩)], [.row 157 (.int .u64) r0, .row 157 (.int .u64) r1, .row 5 (.int .u8) r2, .row 157 (.int .u64) r3]⟩
theorem ref04Sum_eq (n : Nat) (x0 : List Int) : ref04Sum n x0 =
  obind (ref04_roots BIG (8 : Int) (2 : Int)) fun y1 =>
  obind (ref04_roots BIG (64 : Int) (3 : Int)) fun y2 =>
  obind (ref04_message BIG x0) fun y3 =>
  ref04Sum_L0 n (0 : Int) y1 y2 y3 := by kernel_rfl
theorem ref04Sum_L0_eq (n : Nat) (s6 : Int) (r0 : List Int) (r1 : List Int) (r2 : List Int) : ref04Sum_L0 (n + 1) s6 r0 r1 r2 =
  forkB (decide (s6 < ((r2.length : Nat) : Int)))
  (if 0 ≤ s6 ∧ s6 ≤ IntKind.i64.wrap (s6 + (64 : Int)) ∧ IntKind.i64.wrap (s6 + (64 : Int)) ≤ ((r2.length : Nat) : Int) then (if s6.toNat + (((IntKind.i64.wrap (s6 + (64 : Int))).toNat) - s6.toNat) ≤ r2.length then (obind (ref04_words BIG (List.take (((IntKind.i64.wrap (s6 + (64 : Int))).toNat) - s6.toNat) (List.drop s6.toNat r2))) fun y1 =>
   if (0 + r0.length) * 8 ≤ 140737488355328 then (ref04Sum_L1 n s6 (0 : Int) r0 r1 r2 y1 (([] : List Int) ++ r0)) else none) else none) else none)
  (ref04Sum_L3 n (0 : Int) r0 ([] : List Int)) := by kernel_rfl
theorem ref04Sum_L1_eq (n : Nat) (s6 : Int) (s9 : Int) (r0 : List Int) (r1 : List Int) (r2 : List Int) (r3 : List Int) (r4 : List Int) : ref04Sum_L1 (n + 1) s6 s9 r0 r1 r2 r3 r4 =
  forkB (decide (s9 < (64 : Int)))
  (if 0 ≤ (4 : Int) ∧ (4 : Int) < ((r4.length : Nat) : Int) then (if 0 ≤ (0 : Int) ∧ (0 : Int) < ((r4.length : Nat) : Int) then (if 0 ≤ (5 : Int) ∧ (5 : Int) < ((r4.length : Nat) : Int) then (if 0 ≤ (6 : Int) ∧ (6 : Int) < ((r4.length : Nat) : Int) then (if 0 ≤ (1 : Int) ∧ (1 : Int) < ((r4.length : Nat) : Int) then (if 0 ≤ (2 : Int) ∧ (2 : Int) < ((r4.length : Nat) : Int) then (if 0 ≤ (1 : Int) ∧ (1 : Int) < ((r4.length : Nat) : Int) then (if 0 ≤ (2 : Int) ∧ (2 : Int) < ((r4.length : Nat) : Int) then (if 0 ≤ (7 : Int) ∧ (7 : Int) < ((r4.length : Nat) : Int) then (obind (ref04_turned BIG (r4.getD 4 (0 : Int)) (6 : Int)) fun y1 =>
   obind (ref04_turned BIG (r4.getD 4 (0 : Int)) (11 : Int)) fun y2 =>
   obind (ref04_turned BIG (r4.getD 4 (0 : Int)) (25 : Int)) fun y3 =>
   if 0 ≤ s9 ∧ s9 < ((r1.length : Nat) : Int) then (if 0 ≤ s9 ∧ s9 < ((r3.length : Nat) : Int) then (obind (ref04_turned BIG (r4.getD 0 (0 : Int)) (2 : Int)) fun y4 =>
   obind (ref04_turned BIG (r4.getD 0 (0 : Int)) (13 : Int)) fun y5 =>
   obind (ref04_turned BIG (r4.getD 0 (0 : Int)) (22 : Int)) fun y6 =>
   if 0 ≤ (0 : Int) ∧ (0 : Int) ≤ (7 : Int) ∧ (7 : Int) ≤ ((r4.length : Nat) : Int) then (if 7 ≤ r4.length then (if (1 + (List.take 7 (List.drop 0 r4)).length) * 8 ≤ 140737488355328 then (if 0 ≤ (4 : Int) ∧ (4 : Int) < (((([bAnd .u64 (IntKind.u64.wrap ((IntKind.u64.wrap ((IntKind.u64.wrap ((IntKind.u64.wrap ((IntKind.u64.wrap ((r4.getD 7 (0 : Int)) + (bXor .u64 (bXor .u64 y1 y2) y3))) + (bOr .u64 (bAnd .u64 (r4.getD 4 (0 : Int)) (r4.getD 5 (0 : Int))) (bAnd .u64 (bXor .u64 (4294967295 : Int) (r4.getD 4 (0 : Int))) (r4.getD 6 (0 : Int)))))) + (r1.getD s9.toNat (0 : Int)))) + (r3.getD s9.toNat (0 : Int)))) + (IntKind.u64.wrap ((bXor .u64 (bXor .u64 y4 y5) y6) + (bOr .u64 (bOr .u64 (bAnd .u64 (r4.getD 0 (0 : Int)) (r4.getD 1 (0 : Int))) (bAnd .u64 (r4.getD 0 (0 : Int)) (r4.getD 2 (0 : Int)))) (bAnd .u64 (r4.getD 1 (0 : Int)) (r4.getD 2 (0 : Int)))))))) (4294967295 : Int)] : List Int) ++ (List.take 7 (List.drop 0 r4))).length : Nat) : Int) then (if 0 ≤ (4 : Int) ∧ (4 : Int) < (((([bAnd .u64 (IntKind.u64.wrap ((IntKind.u64.wrap ((IntKind.u64.wrap ((IntKind.u64.wrap ((IntKind.u64.wrap ((r4.getD 7 (0 : Int)) + (bXor .u64 (bXor .u64 y1 y2) y3))) + (bOr .u64 (bAnd .u64 (r4.getD 4 (0 : Int)) (r4.getD 5 (0 : Int))) (bAnd .u64 (bXor .u64 (4294967295 : Int) (r4.getD 4 (0 : Int))) (r4.getD 6 (0 : Int)))))) + (r1.getD s9.toNat (0 : Int)))) + (r3.getD s9.toNat (0 : Int)))) + (IntKind.u64.wrap ((bXor .u64 (bXor .u64 y4 y5) y6) + (bOr .u64 (bOr .u64 (bAnd .u64 (r4.getD 0 (0 : Int)) (r4.getD 1 (0 : Int))) (bAnd .u64 (r4.getD 0 (0 : Int)) (r4.getD 2 (0 : Int)))) (bAnd .u64 (r4.getD 1 (0 : Int)) (r4.getD 2 (0 : Int)))))))) (4294967295 : Int)] : List Int) ++ (List.take 7 (List.drop 0 r4))).length : Nat) : Int) then (ref04Sum_L1 n s6 (IntKind.i64.wrap (s9 + (1 : Int))) r0 r1 r2 r3 ((([bAnd .u64 (IntKind.u64.wrap ((IntKind.u64.wrap ((IntKind.u64.wrap ((IntKind.u64.wrap ((IntKind.u64.wrap ((r4.getD 7 (0 : Int)) + (bXor .u64 (bXor .u64 y1 y2) y3))) + (bOr .u64 (bAnd .u64 (r4.getD 4 (0 : Int)) (r4.getD 5 (0 : Int))) (bAnd .u64 (bXor .u64 (4294967295 : Int) (r4.getD 4 (0 : Int))) (r4.getD 6 (0 : Int)))))) + (r1.getD s9.toNat (0 : Int)))) + (r3.getD s9.toNat (0 : Int)))) + (IntKind.u64.wrap ((bXor .u64 (bXor .u64 y4 y5) y6) + (bOr .u64 (bOr .u64 (bAnd .u64 (r4.getD 0 (0 : Int)) (r4.getD 1 (0 : Int))) (bAnd .u64 (r4.getD 0 (0 : Int)) (r4.getD 2 (0 : Int)))) (bAnd .u64 (r4.getD 1 (0 : Int)) (r4.getD 2 (0 : Int)))))))) (4294967295 : Int)] : List Int) ++ (List.take 7 (List.drop 0 r4))).set 4 (bAnd .u64 (IntKind.u64.wrap (((([bAnd .u64 (IntKind.u64.wrap ((IntKind.u64.wrap ((IntKind.u64.wrap ((IntKind.u64.wrap ((IntKind.u64.wrap ((r4.getD 7 (0 : Int)) + (bXor .u64 (bXor .u64 y1 y2) y3))) + (bOr .u64 (bAnd .u64 (r4.getD 4 (0 : Int)) (r4.getD 5 (0 : Int))) (bAnd .u64 (bXor .u64 (4294967295 : Int) (r4.getD 4 (0 : Int))) (r4.getD 6 (0 : Int)))))) + (r1.getD s9.toNat (0 : Int)))) + (r3.getD s9.toNat (0 : Int)))) + (IntKind.u64.wrap ((bXor .u64 (bXor .u64 y4 y5) y6) + (bOr .u64 (bOr .u64 (bAnd .u64 (r4.getD 0 (0 : Int)) (r4.getD 1 (0 : Int))) (bAnd .u64 (r4.getD 0 (0 : Int)) (r4.getD 2 (0 : Int)))) (bAnd .u64 (r4.getD 1 (0 : Int)) (r4.getD 2 (0 : Int)))))))) (4294967295 : Int)] : List Int) ++ (List.take 7 (List.drop 0 r4))).getD 4 (0 : Int)) + (IntKind.u64.wrap ((IntKind.u64.wrap ((IntKind.u64.wrap ((IntKind.u64.wrap ((r4.getD 7 (0 : Int)) + (bXor .u64 (bXor .u64 y1 y2) y3))) + (bOr .u64 (bAnd .u64 (r4.getD 4 (0 : Int)) (r4.getD 5 (0 : Int))) (bAnd .u64 (bXor .u64 (4294967295 : Int) (r4.getD 4 (0 : Int))) (r4.getD 6 (0 : Int)))))) + (r1.getD s9.toNat (0 : Int)))) + (r3.getD s9.toNat (0 : Int)))))) (4294967295 : Int)))) else none) else none) else none) else none) else none) else none) else none) else none) else none) else none) else none) else none) else none) else none) else none) else none)
  (ref04Sum_L2 n s6 (0 : Int) r0 r1 r2 r4) := by kernel_rfl
theorem ref04Sum_L3_eq (n : Nat) (s18 : Int) (r0 : List Int) (r1 : List Int) : ref04Sum_L3 (n + 1) s18 r0 r1 =
  forkB (decide (s18 < (8 : Int)))
  (if 0 ≤ s18 ∧ s18 < ((r0.length : Nat) : Int) then (if 0 ≤ s18 ∧ s18 < ((r0.length : Nat) : Int) then (if 0 ≤ s18 ∧ s18 < ((r0.length : Nat) : Int) then (if 0 ≤ s18 ∧ s18 < ((r0.length : Nat) : Int) then (if (r1.length + 4) * 1 ≤ 140737488355328 then (ref04Sum_L3 n (IntKind.i64.wrap (s18 + (1 : Int))) r0 (r1 ++ ([IntKind.u8.wrap (sShr .u64 (r0.getD s18.toNat (0 : Int)) (24 : Int)), IntKind.u8.wrap (sShr .u64 (r0.getD s18.toNat (0 : Int)) (16 : Int)), IntKind.u8.wrap (sShr .u64 (r0.getD s18.toNat (0 : Int)) (8 : Int)), IntKind.u8.wrap (r0.getD s18.toNat (0 : Int))] : List Int))) else none) else none) else none) else none) else none)
  (some r1) := by kernel_rfl
theorem ref04Sum_L2_eq (n : Nat) (s6 : Int) (s16 : Int) (r0 : List Int) (r1 : List Int) (r2 : List Int) (r3 : List Int) : ref04Sum_L2 (n + 1) s6 s16 r0 r1 r2 r3 =
  forkB (decide (s16 < (8 : Int)))
  (if 0 ≤ s16 ∧ s16 < ((r0.length : Nat) : Int) then (if 0 ≤ s16 ∧ s16 < ((r3.length : Nat) : Int) then (if 0 ≤ s16 ∧ s16 < ((r0.length : Nat) : Int) then (ref04Sum_L2 n s6 (IntKind.i64.wrap (s16 + (1 : Int))) (r0.set s16.toNat (bAnd .u64 (IntKind.u64.wrap ((r0.getD s16.toNat (0 : Int)) + (r3.getD s16.toNat (0 : Int)))) (4294967295 : Int))) r1 r2 r3) else none) else none) else none)
  (ref04Sum_L0 n (IntKind.i64.wrap (s6 + (64 : Int))) r0 r1 r2) := by kernel_rfl
theorem ref04Sum_ex : ∃ f : (List Int) → Option (List Int), f = ref04Sum BIG := ⟨_, rfl⟩
noncomputable def ref04SumO : (List Int) → Option (List Int) := Classical.choose ref04Sum_ex
theorem ref04SumO_eq : ref04SumO = ref04Sum BIG := Classical.choose_spec ref04Sum_ex
noncomputable def ref04Sum_sp : FnSpec TT := ⟨[.val (.list (.int .u8))], [.own 5 (.int .u8)], fun x => ref04SumO x⟩
theorem ref04Sum_ok : FnOk TT Tryz.prog 99 ref04Sum_sp := fnOk_of (C := ref04Sum_C) (by kernel_rfl) ref04Sum_env Tryz.func99 (show Tryz.f99.body = some (bodyOf Tryz.f99) by kernel_rfl) (by kernel_rfl) (by kernel_rfl) (cuts := ref04Sum_cuts) fun x y h => ⟨BIG, (congrArg (fun f => f x) ref04SumO_eq).symm.trans h⟩
noncomputable def ref05_under_C : Ctx TT := ⟨tyOf, [(99, ref04Sum_sp.toCall)], 0, [], layOf⟩
theorem ref05_under_env : EnvOk TT Tryz.prog ref05_under_C.E := envG (fnCall_ok ref04Sum_ok) (envNil)
def ref05_under_cuts : List (Pos × Cut) := [([true, true], ⟨[1, 5], [], false, []⟩), ([false, true, false, true, true, true, true], ⟨[1, 5, 6, 7], [], false, []⟩), ([false, false, true, false, false, true, false, true, true, true, true], ⟨[1, 5, 6, 7], [], false, []⟩)]
noncomputable def ref05_under (n : Nat) (x0 : List Int) (x1 : Int) : Option (List Int) := topF TT Tryz.prog ref05_under_C ref05_under_cuts Tryz.f146 (bodyOf Tryz.f146) ⟨[], []⟩ [.val (.list (.int .u8)), .val (.int .u8)] [.own 5 (.int .u8)] n (x0, x1)
noncomputable def ref05_under_J0 (n : Nat) (s1 : Int) (r0 : List Int) : Option (List Int) := cutF TT Tryz.prog ref05_under_C ref05_under_cuts Tryz.f146 (bodyOf Tryz.f146) ⟨[], []⟩ [.val (.list (.int .u8)), .val (.int .u8)] [.own 5 (.int .u8)] n [true, true] ⟨[(1, .cell ⟨.int .u8, s1⟩), (5, .own 0)], [.row 5 (.int .u8) r0]⟩
noncomputable def ref05_under_J0a (n : Nat) (s1 : Int) (s5 : List Int) : Option (List Int) := cutF TT Tryz.prog ref05_under_C ref05_under_cuts Tryz.f146 (bodyOf Tryz.f146) ⟨[], []⟩ [.val (.list (.int .u8)), .val (.int .u8)] [.own 5 (.int .u8)] n [true, true] ⟨[(1, .cell ⟨.int .u8, s1⟩), (5, .cell ⟨.list (.int .u8), s5⟩)], []⟩
noncomputable def ref05_under_L1 (n : Nat) (s1 : Int) (s7 : Int) (r0 : List Int) (r1 : List Int) : Option (List Int) := cutF TT Tryz.prog ref05_under_C ref05_under_cuts Tryz.f146 (bodyOf Tryz.f146) ⟨[], []⟩ [.val (.list (.int .u8)), .val (.int .u8)] [.own 5 (.int .u8)] n [false, true, false, true, true, true, true] ⟨[(1, .cell ⟨.int .u8, s1⟩), (5, .own 0), (6, .own 1), (7, .cell ⟨.int .i64, s7⟩)], [.row 5 (.int .u8) r0, .row 5 (.int .u8) r1]⟩
noncomputable def ref05_under_L1a (n : Nat) (s1 : Int) (s5 : List Int) (s7 : Int) (r0 : List Int) : Option (List Int) := cutF TT Tryz.prog ref05_under_C ref05_under_cuts Tryz.f146 (bodyOf Tryz.f146) ⟨[], []⟩ [.val (.list (.int .u8)), .val (.int .u8)] [.own 5 (.int .u8)] n [false, true, false, true, true, true, true] ⟨[(1, .cell ⟨.int .u8, s1⟩), (5, .cell ⟨.list (.int .u8), s5⟩), (6, .own 0), (7, .cell ⟨.int .i64, s7⟩)], [.row 5 (.int .u8) r0]⟩
noncomputable def ref05_under_J2 (n : Nat) (s1 : Int) (s7 : Int) (r0 : List Int) (r1 : List Int) : Option (List Int) := cutF TT Tryz.prog ref05_under_C ref05_under_cuts Tryz.f146 (bodyOf Tryz.f146) ⟨[], []⟩ [.val (.list (.int .u8)), .val (.int .u8)] [.own 5 (.int .u8)] n [false, false, true, false, false, true, false, true, true, true, true] ⟨[(1, .cell ⟨.int .u8, s1⟩), (5, .own 0), (6, .own 1), (7, .cell ⟨.int .i64, s7⟩)], [.row 5 (.int .u8) r0, .row 5 (.int .u8) r1]⟩
noncomputable def ref05_under_J2a (n : Nat) (s1 : Int) (s5 : List Int) (s7 : Int) (r0 : List Int) : Option (List Int) := cutF TT Tryz.prog ref05_under_C ref05_under_cuts Tryz.f146 (bodyOf Tryz.f146) ⟨[], []⟩ [.val (.list (.int .u8)), .val (.int .u8)] [.own 5 (.int .u8)] n [false, false, true, false, false, true, false, true, true, true, true] ⟨[(1, .cell ⟨.int .u8, s1⟩), (5, .cell ⟨.list (.int .u8), s5⟩), (6, .own 0), (7, .cell ⟨.int .i64, s7⟩)], [.row 5 (.int .u8) r0]⟩
theorem ref05_under_eq (n : Nat) (x0 : List Int) (x1 : Int) : ref05_under n x0 x1 =
  forkB (decide (((x0.length : Nat) : Int) > (64 : Int)))
  (obind (ref04SumO x0) fun y1 =>
   ref05_under_J0 n x1 y1)
  (ref05_under_J0a n x1 x0) := by kernel_rfl
theorem ref05_under_J0_eq (n : Nat) (s1 : Int) (r0 : List Int) : ref05_under_J0 (n + 1) s1 r0 =
  if 0 ≤ (64 : Int) ∧ (64 : Int) ≤ (64 : Int) ∧ 1 * 64 ≤ 281474976710656 ∧ (64 : Int) ≤ 9223372036854775807 then (ref05_under_L1 n s1 (0 : Int) r0 (List.replicate 64 (0 : Int))) else none := by kernel_rfl
theorem ref05_under_J0a_eq (n : Nat) (s1 : Int) (s5 : List Int) : ref05_under_J0a (n + 1) s1 s5 =
  if 0 ≤ (64 : Int) ∧ (64 : Int) ≤ (64 : Int) ∧ 1 * 64 ≤ 281474976710656 ∧ (64 : Int) ≤ 9223372036854775807 then (ref05_under_L1a n s1 s5 (0 : Int) (List.replicate 64 (0 : Int))) else none := by kernel_rfl
theorem ref05_under_L1_eq (n : Nat) (s1 : Int) (s7 : Int) (r0 : List Int) (r1 : List Int) : ref05_under_L1 (n + 1) s1 s7 r0 r1 =
  forkB (decide (s7 < (64 : Int)))
  (forkB (decide (s7 < ((r0.length : Nat) : Int)))
   (if 0 ≤ s7 ∧ s7 < ((r0.length : Nat) : Int) then (if 0 ≤ s7 ∧ s7 < ((r1.length : Nat) : Int) then (ref05_under_J2 n s1 s7 r0 (r1.set s7.toNat (r0.getD s7.toNat (0 : Int)))) else none) else none)
   (ref05_under_J2 n s1 s7 r0 r1))
  (some r1) := by kernel_rfl
theorem ref05_under_L1a_eq (n : Nat) (s1 : Int) (s5 : List Int) (s7 : Int) (r0 : List Int) : ref05_under_L1a (n + 1) s1 s5 s7 r0 =
  forkB (decide (s7 < (64 : Int)))
  (forkB (decide (s7 < ((s5.length : Nat) : Int)))
   (if 0 ≤ s7 ∧ s7 < ((s5.length : Nat) : Int) then (if 0 ≤ s7 ∧ s7 < ((r0.length : Nat) : Int) then (ref05_under_J2a n s1 s5 s7 (r0.set s7.toNat (s5.getD s7.toNat (0 : Int)))) else none) else none)
   (ref05_under_J2a n s1 s5 s7 r0))
  (some r0) := by kernel_rfl
theorem ref05_under_J2_eq (n : Nat) (s1 : Int) (s7 : Int) (r0 : List Int) (r1 : List Int) : ref05_under_J2 (n + 1) s1 s7 r0 r1 =
  if 0 ≤ s7 ∧ s7 < ((r1.length : Nat) : Int) then (if 0 ≤ s7 ∧ s7 < ((r1.length : Nat) : Int) then (ref05_under_L1 n s1 (IntKind.i64.wrap (s7 + (1 : Int))) r0 (r1.set s7.toNat (bXor .u8 (r1.getD s7.toNat (0 : Int)) s1))) else none) else none := by kernel_rfl
theorem ref05_under_J2a_eq (n : Nat) (s1 : Int) (s5 : List Int) (s7 : Int) (r0 : List Int) : ref05_under_J2a (n + 1) s1 s5 s7 r0 =
  if 0 ≤ s7 ∧ s7 < ((r0.length : Nat) : Int) then (if 0 ≤ s7 ∧ s7 < ((r0.length : Nat) : Int) then (ref05_under_L1a n s1 s5 (IntKind.i64.wrap (s7 + (1 : Int))) (r0.set s7.toNat (bXor .u8 (r0.getD s7.toNat (0 : Int)) s1))) else none) else none := by kernel_rfl
noncomputable def ref05_under_sp : FnSpec TT := ⟨[.val (.list (.int .u8)), .val (.int .u8)], [.own 5 (.int .u8)], fun x => ref05_under BIG x.1 x.2⟩
theorem ref05_under_ok : FnOk TT Tryz.prog 146 ref05_under_sp := fnOk_of (C := ref05_under_C) (by kernel_rfl) ref05_under_env Tryz.func146 (show Tryz.f146.body = some (bodyOf Tryz.f146) by kernel_rfl) (by kernel_rfl) (by kernel_rfl) (cuts := ref05_under_cuts) fun x y h => ⟨BIG, h⟩
noncomputable def ref05Tag_C : Ctx TT := ⟨tyOf, [(146, ref05_under_sp.toCall), (99, ref04Sum_sp.toCall)], 0, [], layOf⟩
theorem ref05Tag_env : EnvOk TT Tryz.prog ref05Tag_C.E := envG (fnCall_ok ref05_under_ok) (envG (fnCall_ok ref04Sum_ok) (envNil))
def ref05Tag_cuts : List (Pos × Cut) := []
noncomputable def ref05Tag (n : Nat) (x0 : List Int) (x1 : List Int) : Option (List Int) := topF TT Tryz.prog ref05Tag_C ref05Tag_cuts Tryz.f101 (bodyOf Tryz.f101) ⟨[], []⟩ [.val (.list (.int .u8)), .val (.list (.int .u8))] [.own 5 (.int .u8)] n (x0, x1)
theorem ref05Tag_eq (n : Nat) (x0 : List Int) (x1 : List Int) : ref05Tag n x0 x1 =
  obind (ref05_under BIG x0 (54 : Int)) fun y1 =>
  if (y1.length + x1.length) * 1 ≤ 140737488355328 then (obind (ref04SumO (y1 ++ x1)) fun y2 =>
  obind (ref05_under BIG x0 (92 : Int)) fun y3 =>
  if (y3.length + y2.length) * 1 ≤ 140737488355328 then (obind (ref04SumO (y3 ++ y2)) fun y4 =>
  some y4) else none) else none := by kernel_rfl
noncomputable def ref05Tag_sp : FnSpec TT := ⟨[.val (.list (.int .u8)), .val (.list (.int .u8))], [.own 5 (.int .u8)], fun x => ref05Tag BIG x.1 x.2⟩
theorem ref05Tag_ok : FnOk TT Tryz.prog 101 ref05Tag_sp := fnOk_of (C := ref05Tag_C) (by kernel_rfl) ref05Tag_env Tryz.func101 (show Tryz.f101.body = some (bodyOf Tryz.f101) by kernel_rfl) (by kernel_rfl) (by kernel_rfl) (cuts := ref05Tag_cuts) fun x y h => ⟨BIG, h⟩
noncomputable def ref19_wrong_C : Ctx TT := ⟨tyOf, [], 0, [], layOf⟩
theorem ref19_wrong_env : EnvOk TT Tryz.prog ref19_wrong_C.E := envNil
def ref19_wrong_cuts : List (Pos × Cut) := [([false, false, true], ⟨[1, 3], [], false, []⟩)]
noncomputable def ref19_wrong (n : Nat) (x0 : Bundle) : Option (Int) := topF TT Tryz.prog ref19_wrong_C ref19_wrong_cuts Tryz.f102 (bodyOf Tryz.f102) ⟨[], []⟩ [.val (.user 3)] [.val (.int .i64)] n x0
noncomputable def ref19_wrong_J0 (n : Nat) (s3 : Bool) (b0_0 : Int) (b0_1 : List Int) (b0_2 : List Int) (b0_3 : List Int) : Option (Int) := cutF TT Tryz.prog ref19_wrong_C ref19_wrong_cuts Tryz.f102 (bodyOf Tryz.f102) ⟨[], []⟩ [.val (.user 3)] [.val (.int .i64)] n [false, false, true] ⟨[(1, .ptr 0 0), (3, .cell ⟨.bool, s3⟩)], [.blk 113 [.cell ⟨.int .i64, b0_0⟩, .cell ⟨.list (.int .u8), b0_1⟩, .cell ⟨.list (.int .u8), b0_2⟩, .cell ⟨.list (.int .u8), b0_3⟩]]⟩
theorem ref19_wrong_eq (n : Nat) (x0 : Bundle) : ref19_wrong n x0 =
  forkB (decide (x0.Version < (1 : Int)))
  (ref19_wrong_J0 n true x0.Version x0.Code x0.Digest x0.Tag)
  (ref19_wrong_J0 n (decide (x0.Version > (1073741824 : Int))) x0.Version x0.Code x0.Digest x0.Tag) := by kernel_rfl
theorem ref19_wrong_J0_eq (n : Nat) (s3 : Bool) (b0_0 : Int) (b0_1 : List Int) (b0_2 : List Int) (b0_3 : List Int) : ref19_wrong_J0 (n + 1) s3 b0_0 b0_1 b0_2 b0_3 =
  forkB s3
  (some (2 : Int))
  (forkB (decide (((b0_1.length : Nat) : Int) > (32768 : Int)))
   (some (3 : Int))
   (forkB (((b0_2.length : Nat) : Int) != (32 : Int))
    (some (4 : Int))
    (forkB (((b0_3.length : Nat) : Int) != (32 : Int))
     (some (4 : Int))
     (some (0 : Int))))) := by kernel_rfl
noncomputable def ref19_wrong_sp : FnSpec TT := ⟨[.val (.user 3)], [.val (.int .i64)], fun x => ref19_wrong BIG x⟩
theorem ref19_wrong_ok : FnOk TT Tryz.prog 102 ref19_wrong_sp := fnOk_of (C := ref19_wrong_C) (by kernel_rfl) ref19_wrong_env Tryz.func102 (show Tryz.f102.body = some (bodyOf Tryz.f102) by kernel_rfl) (by kernel_rfl) (by kernel_rfl) (cuts := ref19_wrong_cuts) fun x y h => ⟨BIG, h⟩
noncomputable def ref19Make_C : Ctx TT := ⟨tyOf, [(100, ref19_part_sp.toCall), (99, ref04Sum_sp.toCall), (101, ref05Tag_sp.toCall), (102, ref19_wrong_sp.toCall)], 0, [], layOf⟩
theorem ref19Make_env : EnvOk TT Tryz.prog ref19Make_C.E := envG (fnCall_ok ref19_part_ok) (envG (fnCall_ok ref04Sum_ok) (envG (fnCall_ok ref05Tag_ok) (envG (fnCall_ok ref19_wrong_ok) (envNil))))
def ref19Make_cuts : List (Pos × Cut) := []
noncomputable def ref19Make (n : Nat) (x0 : List Int) (x1 : Int) (x2 : List Int) : Option (Bundle × Int) := topF TT Tryz.prog ref19Make_C ref19Make_cuts Tryz.f59 (bodyOf Tryz.f59) ⟨[], [(0, .user 3)]⟩ [.val (.list (.int .u8)), .val (.int .i64), .val (.list (.int .u8))] [.val (.user 3), .val (.int .i64)] n (x0, x1, x2)
theorem ref19Make_eq (n : Nat) (x0 : List Int) (x1 : Int) (x2 : List Int) : ref19Make n x0 x1 x2 =
  if (0 + x2.length) * 1 ≤ 140737488355328 then (obind (ref19_part BIG (⟨x1, ([] : List Int) ++ x2, ([] : List Int), ([] : List Int)⟩ : Bundle)) fun y1 =>
  obind (ref04SumO y1) fun y2 =>
  obind (ref05Tag BIG x0 y2) fun y3 =>
  obind (ref19_wrong BIG (⟨x1, ([] : List Int) ++ x2, y2, y3⟩ : Bundle)) fun y4 =>
  forkB (y4 != (0 : Int))
  (some ((⟨(0 : Int), ([] : List Int), ([] : List Int), ([] : List Int)⟩ : Bundle), y4))
  (some ((⟨x1, ([] : List Int) ++ x2, y2, y3⟩ : Bundle), (0 : Int)))) else none := by kernel_rfl
theorem ref19Make_ex : ∃ f : (List Int) → Int → (List Int) → Option (Bundle × Int), f = ref19Make BIG := ⟨_, rfl⟩
noncomputable def ref19MakeO : (List Int) → Int → (List Int) → Option (Bundle × Int) := Classical.choose ref19Make_ex
theorem ref19MakeO_eq : ref19MakeO = ref19Make BIG := Classical.choose_spec ref19Make_ex
noncomputable def ref19Make_sp : FnSpec TT := ⟨[.val (.list (.int .u8)), .val (.int .i64), .val (.list (.int .u8))], [.val (.user 3), .val (.int .i64)], fun x => ref19MakeO x.1 x.2.1 x.2.2⟩
theorem ref19Make_ok : FnOk TT Tryz.prog 59 ref19Make_sp := fnOk_of (C := ref19Make_C) (by kernel_rfl) ref19Make_env Tryz.func59 (show Tryz.f59.body = some (bodyOf Tryz.f59) by kernel_rfl) (by kernel_rfl) (by kernel_rfl) (cuts := ref19Make_cuts) fun x y h => ⟨BIG, (congrArg (fun f => f x.1 x.2.1 x.2.2) ref19MakeO_eq).symm.trans h⟩
noncomputable def ref19Make_g1_C : Ctx TT := ⟨tyOf, [(100, ref19_part_sp.toCall), (99, ref04Sum_sp.toCall), (101, ref05Tag_sp.toCall), (102, ref19_wrong_sp.toCall)], 1, [], layOf⟩
theorem ref19Make_g1_env : EnvOk TT Tryz.prog ref19Make_g1_C.E := envG (fnCall_ok ref19_part_ok) (envG (fnCall_ok ref04Sum_ok) (envG (fnCall_ok ref05Tag_ok) (envG (fnCall_ok ref19_wrong_ok) (envNil))))
def ref19Make_g1_cuts : List (Pos × Cut) := []
noncomputable def ref19Make_g1 (n : Nat) (x0 : List Int) (x1 : Int) (x2 : List Int) : Option ((List Int × Unit) × (Bundle × Int × Unit)) := topG TT Tryz.prog ref19Make_g1_C ref19Make_g1_cuts Tryz.f59 (bodyOf Tryz.f59) ⟨[], [], [], [(0, .user 3)], []⟩ [.val (.list (.int .u8)), .val (.int .i64), .row 5 (.int .u8)] [.row 5 (.int .u8)] [.val (.user 3), .val (.int .i64)] n (x0, x1, x2, ())
theorem ref19Make_g1_eq (n : Nat) (x0 : List Int) (x1 : Int) (x2 : List Int) : ref19Make_g1 n x0 x1 x2 =
  if (0 + x2.length) * 1 ≤ 140737488355328 then (obind (ref19_part BIG (⟨x1, ([] : List Int) ++ x2, ([] : List Int), ([] : List Int)⟩ : Bundle)) fun y1 =>
  obind (ref04SumO y1) fun y2 =>
  obind (ref05Tag BIG x0 y2) fun y3 =>
  obind (ref19_wrong BIG (⟨x1, ([] : List Int) ++ x2, y2, y3⟩ : Bundle)) fun y4 =>
  forkB (y4 != (0 : Int))
  (some ((x2, ()), ((⟨(0 : Int), ([] : List Int), ([] : List Int), ([] : List Int)⟩ : Bundle), y4, ())))
  (some ((x2, ()), ((⟨x1, ([] : List Int) ++ x2, y2, y3⟩ : Bundle), (0 : Int), ())))) else none := by kernel_rfl
theorem ref19Make_g1_ex : ∃ f : (List Int) → Int → (List Int) → Option ((List Int × Unit) × (Bundle × Int × Unit)), f = ref19Make_g1 BIG := ⟨_, rfl⟩
noncomputable def ref19Make_g1O : (List Int) → Int → (List Int) → Option ((List Int × Unit) × (Bundle × Int × Unit)) := Classical.choose ref19Make_g1_ex
theorem ref19Make_g1O_eq : ref19Make_g1O = ref19Make_g1 BIG := Classical.choose_spec ref19Make_g1_ex
noncomputable def ref19Make_g1_sp : GSpec TT := ⟨[.val (.list (.int .u8)), .val (.int .i64), .row 5 (.int .u8)], [.row 5 (.int .u8)], [.val (.user 3), .val (.int .i64)], fun x => ref19Make_g1O x.1 x.2.1 x.2.2.1⟩
theorem ref19Make_g1_ok : GOk TT Tryz.prog 59 ref19Make_g1_sp := gOk_of (C := ref19Make_g1_C) (cuts := ref19Make_g1_cuts) (by kernel_rfl) ref19Make_g1_env Tryz.func59 (show Tryz.f59.body = some (bodyOf Tryz.f59) by kernel_rfl) (by kernel_rfl) (by kernel_rfl) (by kernel_rfl) fun x y h => ⟨BIG, (congrArg (fun f => f x.1 x.2.1 x.2.2.1) ref19Make_g1O_eq).symm.trans h⟩
noncomputable def ref19Put_C : Ctx TT := ⟨tyOf, [(102, ref19_wrong_sp.toCall), (100, ref19_part_sp.toCall), (103, ref02Bytes_sp.toCall)], 0, [(4, 1)], layOf⟩
theorem ref19Put_env : EnvOk TT Tryz.prog ref19Put_C.E := envG (fnCall_ok ref19_wrong_ok) (envG (fnCall_ok ref19_part_ok) (envG (fnCall_ok ref02Bytes_ok) (envNil)))
def ref19Put_cuts : List (Pos × Cut) := []
noncomputable def ref19Put (n : Nat) (x0 : Bundle) : Option (List Int × Int) := topF TT Tryz.prog ref19Put_C ref19Put_cuts Tryz.f60 (bodyOf Tryz.f60) ⟨[], []⟩ [.val (.user 3)] [.own 5 (.int .u8), .val (.int .i64)] n x0
theorem ref19Put_eq (n : Nat) (x0 : Bundle) : ref19Put n x0 =
  obind (ref19_wrong BIG x0) fun y1 =>
  forkB (y1 != (0 : Int))
  (some (([] : List Int), y1))
  (obind (ref19_part BIG x0) fun y2 =>
   obind (ref02Bytes BIG x0.Digest) fun y3 =>
   if (y2.length + y3.length) * 1 ≤ 140737488355328 then (obind (ref02Bytes BIG x0.Tag) fun y4 =>
   if ((y2 ++ y3).length + y4.length) * 1 ≤ 140737488355328 then (some ((y2 ++ y3) ++ y4, (0 : Int))) else none) else none) := by kernel_rfl
noncomputable def ref19Put_sp : FnSpec TT := ⟨[.val (.user 3)], [.own 5 (.int .u8), .val (.int .i64)], fun x => ref19Put BIG x⟩
theorem ref19Put_ok : FnOk TT Tryz.prog 60 ref19Put_sp := fnOk_of (C := ref19Put_C) (by kernel_rfl) ref19Put_env Tryz.func60 (show Tryz.f60.body = some (bodyOf Tryz.f60) by kernel_rfl) (by kernel_rfl) (by kernel_rfl) (cuts := ref19Put_cuts) fun x y h => ⟨BIG, h⟩
noncomputable def law27_data_C : Ctx TT := ⟨tyOf, [(59, ref19Make_g1_sp.toCall (ref19Make_sp.toCall)), (60, ref19Put_sp.toCall)], 0, [], layOf⟩
theorem law27_data_env : EnvOk TT Tryz.prog law27_data_C.E := envG (gCall_ok ref19Make_g1_ok (fnCall_ok ref19Make_ok)) (envG (fnCall_ok ref19Put_ok) (envNil))
def law27_data_cuts : List (Pos × Cut) := []
noncomputable def law27_data (n : Nat) (x0 : Int) : Option (List Int) := topF TT Tryz.prog law27_data_C law27_data_cuts Tryz.f26 (bodyOf Tryz.f26) ⟨[], []⟩ [.val (.int .i64)] [.own 5 (.int .u8)] n x0
theorem law27_data_eq (n : Nat) (x0 : Int) : law27_data n x0 =
  obind (ref19Make_g1O ([(107 : Int)] : List Int) x0 ([(28 : Int), (0 : Int), (0 : Int), (0 : Int), (0 : Int), (0 : Int), (0 : Int), (0 : Int)] : List Int)) fun y1 =>
  obind (ref19Put BIG y1.2.1) fun y2 =>
  some y2.1 := by kernel_rfl
noncomputable def law27_data_sp : FnSpec TT := ⟨[.val (.int .i64)], [.own 5 (.int .u8)], fun x => law27_data BIG x⟩
theorem law27_data_ok : FnOk TT Tryz.prog 26 law27_data_sp := fnOk_of (C := law27_data_C) (by kernel_rfl) law27_data_env Tryz.func26 (show Tryz.f26.body = some (bodyOf Tryz.f26) by kernel_rfl) (by kernel_rfl) (by kernel_rfl) (cuts := law27_data_cuts) fun x y h => ⟨BIG, h⟩
noncomputable def kitSameBytes_C : Ctx TT := ⟨tyOf, [], 0, [], layOf⟩
theorem kitSameBytes_env : EnvOk TT Tryz.prog kitSameBytes_C.E := envNil
def kitSameBytes_cuts : List (Pos × Cut) := [([false, true, false, true, true], ⟨[0, 1, 5], [], false, []⟩)]
noncomputable def kitSameBytes (n : Nat) (x0 : List Int) (x1 : List Int) : Option (Bool) := topF TT Tryz.prog kitSameBytes_C kitSameBytes_cuts Tryz.f21 (bodyOf Tryz.f21) ⟨[], []⟩ [.val (.list (.int .u8)), .val (.list (.int .u8))] [.val (.bool)] n (x0, x1)
noncomputable def kitSameBytes_L0 (n : Nat) (s0 : List Int) (s1 : List Int) (s5 : Int) : Option (Bool) := cutF TT Tryz.prog kitSameBytes_C kitSameBytes_cuts Tryz.f21 (bodyOf Tryz.f21) ⟨[], []⟩ [.val (.list (.int .u8)), .val (.list (.int .u8))] [.val (.bool)] n [false, true, false, true, true] ⟨[(0, .cell ⟨.list (.int .u8), s0⟩), (1, .cell ⟨.list (.int .u8), s1⟩), (5, .cell ⟨.int .i64, s5⟩)], []⟩
theorem kitSameBytes_eq (n : Nat) (x0 : List Int) (x1 : List Int) : kitSameBytes n x0 x1 =
  forkB (((x0.length : Nat) : Int) != ((x1.length : Nat) : Int))
  (some false)
  (kitSameBytes_L0 n x0 x1 (0 : Int)) := by kernel_rfl
theorem kitSameBytes_L0_eq (n : Nat) (s0 : List Int) (s1 : List Int) (s5 : Int) : kitSameBytes_L0 (n + 1) s0 s1 s5 =
  forkB (decide (s5 < ((s0.length : Nat) : Int)))
  (if 0 ≤ s5 ∧ s5 < ((s0.length : Nat) : Int) then (if 0 ≤ s5 ∧ s5 < ((s1.length : Nat) : Int) then (forkB ((s0.getD s5.toNat (0 : Int)) != (s1.getD s5.toNat (0 : Int)))
   (some false)
   (kitSameBytes_L0 n s0 s1 (IntKind.i64.wrap (s5 + (1 : Int))))) else none) else none)
  (some true) := by kernel_rfl
noncomputable def kitSameBytes_sp : FnSpec TT := ⟨[.val (.list (.int .u8)), .val (.list (.int .u8))], [.val (.bool)], fun x => kitSameBytes BIG x.1 x.2⟩
theorem kitSameBytes_ok : FnOk TT Tryz.prog 21 kitSameBytes_sp := fnOk_of (C := kitSameBytes_C) (by kernel_rfl) kitSameBytes_env Tryz.func21 (show Tryz.f21.body = some (bodyOf Tryz.f21) by kernel_rfl) (by kernel_rfl) (by kernel_rfl) (cuts := kitSameBytes_cuts) fun x y h => ⟨BIG, h⟩
noncomputable def kitSameHeld_C : Ctx TT := ⟨tyOf, [(21, kitSameBytes_sp.toCall)], 0, [], layOf⟩
theorem kitSameHeld_env : EnvOk TT Tryz.prog kitSameHeld_C.E := envG (fnCall_ok kitSameBytes_ok) (envNil)
def kitSameHeld_cuts : List (Pos × Cut) := []
noncomputable def kitSameHeld (n : Nat) (x0 : Held) (x1 : Held) : Option (Bool) := topF TT Tryz.prog kitSameHeld_C kitSameHeld_cuts Tryz.f68 (bodyOf Tryz.f68) ⟨[], []⟩ [.val (.user 1), .val (.user 1)] [.val (.bool)] n (x0, x1)
theorem kitSameHeld_eq (n : Nat) (x0 : Held) (x1 : Held) : kitSameHeld n x0 x1 =
  forkB (x0.Version == x1.Version)
  (obind (kitSameBytes BIG x0.Data x1.Data) fun y1 =>
   some y1)
  (some false) := by kernel_rfl
noncomputable def kitSameHeld_sp : FnSpec TT := ⟨[.val (.user 1), .val (.user 1)], [.val (.bool)], fun x => kitSameHeld BIG x.1 x.2⟩
theorem kitSameHeld_ok : FnOk TT Tryz.prog 68 kitSameHeld_sp := fnOk_of (C := kitSameHeld_C) (by kernel_rfl) kitSameHeld_env Tryz.func68 (show Tryz.f68.body = some (bodyOf Tryz.f68) by kernel_rfl) (by kernel_rfl) (by kernel_rfl) (cuts := kitSameHeld_cuts) fun x y h => ⟨BIG, h⟩
noncomputable def kitSameHeldRow_C : Ctx TT := ⟨tyOf, [(68, kitSameHeld_sp.toCall)], 0, [], layOf⟩
theorem kitSameHeldRow_env : EnvOk TT Tryz.prog kitSameHeldRow_C.E := envG (fnCall_ok kitSameHeld_ok) (envNil)
def kitSameHeldRow_cuts : List (Pos × Cut) := [([false, true, false, true, true], ⟨[0, 1, 5], [], false, []⟩)]
noncomputable def kitSameHeldRow (n : Nat) (x0 : List Held) (x1 : List Held) : Option (Bool) := topF TT Tryz.prog kitSameHeldRow_C kitSameHeldRow_cuts Tryz.f44 (bodyOf Tryz.f44) ⟨[], []⟩ [.val (.list (.user 1)), .val (.list (.user 1))] [.val (.bool)] n (x0, x1)
noncomputable def kitSameHeldRow_L0 (n : Nat) (s0 : List Held) (s1 : List Held) (s5 : Int) : Option (Bool) := cutF TT Tryz.prog kitSameHeldRow_C kitSameHeldRow_cuts Tryz.f44 (bodyOf Tryz.f44) ⟨[], []⟩ [.val (.list (.user 1)), .val (.list (.user 1))] [.val (.bool)] n [false, true, false, true, true] ⟨[(0, .cell ⟨.list (.user 1), s0⟩), (1, .cell ⟨.list (.user 1), s1⟩), (5, .cell ⟨.int .i64, s5⟩)], []⟩
theorem kitSameHeldRow_eq (n : Nat) (x0 : List Held) (x1 : List Held) : kitSameHeldRow n x0 x1 =
  forkB (((x0.length : Nat) : Int) != ((x1.length : Nat) : Int))
  (some false)
  (kitSameHeldRow_L0 n x0 x1 (0 : Int)) := by kernel_rfl
theorem kitSameHeldRow_L0_eq (n : Nat) (s0 : List Held) (s1 : List Held) (s5 : Int) : kitSameHeldRow_L0 (n + 1) s0 s1 s5 =
  forkB (decide (s5 < ((s0.length : Nat) : Int)))
  (if 0 ≤ s5 ∧ s5 < ((s0.length : Nat) : Int) then (if 0 ≤ s5 ∧ s5 < ((s1.length : Nat) : Int) then (obind (kitSameHeld BIG (s0.getD s5.toNat dHeld) (s1.getD s5.toNat dHeld)) fun y1 =>
   forkB (!y1)
   (some false)
   (kitSameHeldRow_L0 n s0 s1 (IntKind.i64.wrap (s5 + (1 : Int))))) else none) else none)
  (some true) := by kernel_rfl
noncomputable def kitSameHeldRow_sp : FnSpec TT := ⟨[.val (.list (.user 1)), .val (.list (.user 1))], [.val (.bool)], fun x => kitSameHeldRow BIG x.1 x.2⟩
theorem kitSameHeldRow_ok : FnOk TT Tryz.prog 44 kitSameHeldRow_sp := fnOk_of (C := kitSameHeldRow_C) (by kernel_rfl) kitSameHeldRow_env Tryz.func44 (show Tryz.f44.body = some (bodyOf Tryz.f44) by kernel_rfl) (by kernel_rfl) (by kernel_rfl) (cuts := kitSameHeldRow_cuts) fun x y h => ⟨BIG, h⟩
noncomputable def kitSameInts_C : Ctx TT := ⟨tyOf, [], 0, [], layOf⟩
theorem kitSameInts_env : EnvOk TT Tryz.prog kitSameInts_C.E := envNil
def kitSameInts_cuts : List (Pos × Cut) := [([false, true, false, true, true], ⟨[0, 1, 5], [], false, []⟩)]
noncomputable def kitSameInts (n : Nat) (x0 : List Int) (x1 : List Int) : Option (Bool) := topF TT Tryz.prog kitSameInts_C kitSameInts_cuts Tryz.f45 (bodyOf Tryz.f45) ⟨[], []⟩ [.val (.list (.int .i64)), .val (.list (.int .i64))] [.val (.bool)] n (x0, x1)
noncomputable def kitSameInts_L0 (n : Nat) (s0 : List Int) (s1 : List Int) (s5 : Int) : Option (Bool) := cutF TT Tryz.prog kitSameInts_C kitSameInts_cuts Tryz.f45 (bodyOf Tryz.f45) ⟨[], []⟩ [.val (.list (.int .i64)), .val (.list (.int .i64))] [.val (.bool)] n [false, true, false, true, true] ⟨[(0, .cell ⟨.list (.int .i64), s0⟩), (1, .cell ⟨.list (.int .i64), s1⟩), (5, .cell ⟨.int .i64, s5⟩)], []⟩
theorem kitSameInts_eq (n : Nat) (x0 : List Int) (x1 : List Int) : kitSameInts n x0 x1 =
  forkB (((x0.length : Nat) : Int) != ((x1.length : Nat) : Int))
  (some false)
  (kitSameInts_L0 n x0 x1 (0 : Int)) := by kernel_rfl
theorem kitSameInts_L0_eq (n : Nat) (s0 : List Int) (s1 : List Int) (s5 : Int) : kitSameInts_L0 (n + 1) s0 s1 s5 =
  forkB (decide (s5 < ((s0.length : Nat) : Int)))
  (if 0 ≤ s5 ∧ s5 < ((s0.length : Nat) : Int) then (if 0 ≤ s5 ∧ s5 < ((s1.length : Nat) : Int) then (forkB ((s0.getD s5.toNat (0 : Int)) != (s1.getD s5.toNat (0 : Int)))
   (some false)
   (kitSameInts_L0 n s0 s1 (IntKind.i64.wrap (s5 + (1 : Int))))) else none) else none)
  (some true) := by kernel_rfl
noncomputable def kitSameInts_sp : FnSpec TT := ⟨[.val (.list (.int .i64)), .val (.list (.int .i64))], [.val (.bool)], fun x => kitSameInts BIG x.1 x.2⟩
theorem kitSameInts_ok : FnOk TT Tryz.prog 45 kitSameInts_sp := fnOk_of (C := kitSameInts_C) (by kernel_rfl) kitSameInts_env Tryz.func45 (show Tryz.f45.body = some (bodyOf Tryz.f45) by kernel_rfl) (by kernel_rfl) (by kernel_rfl) (cuts := kitSameInts_cuts) fun x y h => ⟨BIG, h⟩
noncomputable def kitSameRegistry_C : Ctx TT := ⟨tyOf, [(44, kitSameHeldRow_sp.toCall), (45, kitSameInts_sp.toCall)], 0, [], layOf⟩
theorem kitSameRegistry_env : EnvOk TT Tryz.prog kitSameRegistry_C.E := envG (fnCall_ok kitSameHeldRow_ok) (envG (fnCall_ok kitSameInts_ok) (envNil))
def kitSameRegistry_cuts : List (Pos × Cut) := []
noncomputable def kitSameRegistry (n : Nat) (x0 : Registry) (x1 : Registry) : Option (Bool) := topF TT Tryz.prog kitSameRegistry_C kitSameRegistry_cuts Tryz.f16 (bodyOf Tryz.f16) ⟨[], []⟩ [.val (.user 2), .val (.user 2)] [.val (.bool)] n (x0, x1)
theorem kitSameRegistry_eq (n : Nat) (x0 : Registry) (x1 : Registry) : kitSameRegistry n x0 x1 =
  obind (kitSameHeldRow BIG x0.Held x1.Held) fun y1 =>
  forkB y1
  (forkB (x0.Active == x1.Active)
   (forkB (x0.Before == x1.Before)
    (forkB (x0.Rollout == x1.Rollout)
     (obind (kitSameInts BIG x0.Yes x1.Yes) fun y2 =>
      forkB y2
      (some (x0.No == x1.No))
      (some false))
     (some false))
    (some false))
   (some false))
  (some false) := by kernel_rfl
noncomputable def kitSameRegistry_sp : FnSpec TT := ⟨[.val (.user 2), .val (.user 2)], [.val (.bool)], fun x => kitSameRegistry BIG x.1 x.2⟩
theorem kitSameRegistry_ok : FnOk TT Tryz.prog 16 kitSameRegistry_sp := fnOk_of (C := kitSameRegistry_C) (by kernel_rfl) kitSameRegistry_env Tryz.func16 (show Tryz.f16.body = some (bodyOf Tryz.f16) by kernel_rfl) (by kernel_rfl) (by kernel_rfl) (cuts := kitSameRegistry_cuts) fun x y h => ⟨BIG, h⟩
noncomputable def law27_light_C : Ctx TT := ⟨tyOf, [], 0, [], layOf⟩
theorem law27_light_env : EnvOk TT Tryz.prog law27_light_C.E := envNil
def law27_light_cuts : List (Pos × Cut) := [([false, true, false, true, true], ⟨[0, 3, 4], [], false, []⟩), ([false, false, false, true, false, true, true], ⟨[0, 3, 4, 12], [], false, []⟩)]
noncomputable def law27_light (n : Nat) (x0 : List Entry) : Option (Bool) := topF TT Tryz.prog law27_light_C law27_light_cuts Tryz.f7 (bodyOf Tryz.f7) ⟨[], []⟩ [.val (.list (.user 0))] [.val (.bool)] n x0
noncomputable def law27_light_L0 (n : Nat) (s0 : List Entry) (s3 : Int) (s4 : Int) : Option (Bool) := cutF TT Tryz.prog law27_light_C law27_light_cuts Tryz.f7 (bodyOf Tryz.f7) ⟨[], []⟩ [.val (.list (.user 0))] [.val (.bool)] n [false, true, false, true, true] ⟨[(0, .cell ⟨.list (.user 0), s0⟩), (3, .cell ⟨.int .i64, s3⟩), (4, .cell ⟨.int .i64, s4⟩)], []⟩
noncomputable def law27_light_J1 (n : Nat) (s0 : List Entry) (s3 : Int) (s4 : Int) (s12 : Bool) : Option (Bool) := cutF TT Tryz.prog law27_light_C law27_light_cuts Tryz.f7 (bodyOf Tryz.f7) ⟨[], []⟩ [.val (.list (.user 0))] [.val (.bool)] n [false, false, false, true, false, true, true] ⟨[(0, .cell ⟨.list (.user 0), s0⟩), (3, .cell ⟨.int .i64, s3⟩), (4, .cell ⟨.int .i64, s4⟩), (12, .cell ⟨.bool, s12⟩)], []⟩
theorem law27_light_eq (n : Nat) (x0 : List Entry) : law27_light n x0 =
  law27_light_L0 n x0 (0 : Int) (0 : Int) := by kernel_rfl
theorem law27_light_L0_eq (n : Nat) (s0 : List Entry) (s3 : Int) (s4 : Int) : law27_light_L0 (n + 1) s0 s3 s4 =
  forkB (decide (s4 < ((s0.length : Nat) : Int)))
  (law27_light_J1 n s0 s3 s4 (decide (s3 < (6000 : Int))))
  (law27_light_J1 n s0 s3 s4 false) := by kernel_rfl
theorem law27_light_J1_eq (n : Nat) (s0 : List Entry) (s3 : Int) (s4 : Int) (s12 : Bool) : law27_light_J1 (n + 1) s0 s3 s4 s12 =
  forkB s12
  (if 0 ≤ s4 ∧ s4 < ((s0.length : Nat) : Int) then (law27_light_L0 n s0 (IntKind.i64.wrap ((IntKind.i64.wrap (s3 + (1 : Int))) + (gMin ((((s0.getD s4.toNat dEntry).Data).length : Nat) : Int) (6000 : Int)))) (IntKind.i64.wrap (s4 + (1 : Int)))) else none)
  (forkB (decide (((s0.length : Nat) : Int) ≤ (100 : Int)))
   (some (decide (s3 < (6000 : Int))))
   (some false)) := by kernel_rfl
noncomputable def law27_light_sp : FnSpec TT := ⟨[.val (.list (.user 0))], [.val (.bool)], fun x => law27_light BIG x⟩
theorem law27_light_ok : FnOk TT Tryz.prog 7 law27_light_sp := fnOk_of (C := law27_light_C) (by kernel_rfl) law27_light_env Tryz.func7 (show Tryz.f7.body = some (bodyOf Tryz.f7) by kernel_rfl) (by kernel_rfl) (by kernel_rfl) (cuts := law27_light_cuts) fun x y h => ⟨BIG, h⟩
end Go.X
