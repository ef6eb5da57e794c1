/- What may come behind. -/
import Derived.Test.YtbchneelmiflaaaIa
namespace Go.X
open Go.RowKit Go.V Go.Proofs
noncomputable def ins_fields_C : Ctx TT := ⟨tyOf, [], 0, [], layOf⟩
theorem ins_fields_env : EnvOk TT Try.prog ins_fields_C.E := envNil
def ins_fields_cuts : List (Pos × Cut) := [([false, false, true], ⟨[0, 3], [], false, []⟩)]
noncomputable def ins_fields (n : Nat) (x0 : Int) : Option (Int) := topF TT Try.prog ins_fields_C ins_fields_cuts Try.f28 (bodyOf Try.f28) ⟨[], []⟩ [.val (.int .u8)] [.val (.int .i64)] n x0
noncomputable def ins_fields_J0 (n : Nat) (s0 : Int) (s3 : Bool) : Option (Int) := cutF TT Try.prog ins_fields_C ins_fields_cuts Try.f28 (bodyOf Try.f28) ⟨[], []⟩ [.val (.int .u8)] [.val (.int .i64)] n [false, false, true] ⟨[(0, .cell ⟨.int .u8, s0⟩), (3, .cell ⟨.bool, s3⟩)], []⟩
theorem ins_fields_eq (n : Nat) (x0 : Int) : ins_fields n x0 =
  forkB (decide (x0 ≥ (1 : Int)))
  (ins_fields_J0 n x0 (decide (x0 ≤ (12 : Int))))
  (ins_fields_J0 n x0 false) := by kernel_rfl
theorem ins_fields_J0_eq (n : Nat) (s0 : Int) (s3 : Bool) : ins_fields_J0 (n + 1) s0 s3 =
  forkB s3
  (some (201 : Int))
  (forkB (s0 == (13 : Int))
   (some (193 : Int))
   (forkB (s0 == (14 : Int))
    (some (181 : Int))
    (forkB (s0 == (15 : Int))
     (some (186 : Int))
     (forkB (s0 == (16 : Int))
      (some (144 : Int))
      (forkB (decide (s0 ≥ (17 : Int)))
       (forkB (decide (s0 ≤ (27 : Int)))
        (some (218 : Int))
        (forkB (s0 == (28 : Int))
         (some (128 : Int))
         (some (0 : Int))))
       (forkB (s0 == (28 : Int))
        (some (128 : Int))
        (some (0 : Int)))))))) := by kernel_rfl
noncomputable def ins_fields_sp : FnSpec TT := ⟨[.val (.int .u8)], [.val (.int .i64)], fun x => ins_fields BIG x⟩
theorem ins_fields_ok : FnOk TT Try.prog 28 ins_fields_sp := fnOk_of (C := ins_fields_C) (by kernel_rfl) ins_fields_env Try.func28 (show Try.f28.body = some (bodyOf Try.f28) by kernel_rfl) (by kernel_rfl) (by kernel_rfl) (cuts := ins_fields_cuts) fun x y h => ⟨BIG, h⟩
noncomputable def slicesIndex_C : Ctx TT := ⟨tyOf, [], 0, [], layOf⟩
theorem slicesIndex_env : EnvOk TT Try.prog slicesIndex_C.E := envNil
def slicesIndex_cuts : List (Pos × Cut) := [([false, true, false, true], ⟨[0, 1, 7, 8], [], false, []⟩)]
noncomputable def slicesIndex (n : Nat) (x0 : List Int) (x1 : Int) : Option (Int) := topF TT Try.prog slicesIndex_C slicesIndex_cuts Try.f41 (bodyOf Try.f41) ⟨[], []⟩ [.val (.list (.int .i64)), .val (.int .i64)] [.val (.int .i64)] n (x0, x1)
noncomputable def slicesIndex_L0 (n : Nat) (s0 : List Int) (s1 : Int) (s7 : Int) (s8 : Int) : Option (Int) := cutF TT Try.prog slicesIndex_C slicesIndex_cuts Try.f41 (bodyOf Try.f41) ⟨[], []⟩ [.val (.list (.int .i64)), .val (.int .i64)] [.val (.int .i64)] n [false, true, false, true] ⟨[(0, .cell ⟨.list (.int .i64), s0⟩), (1, .cell ⟨.int .i64, s1⟩), (7, .cell ⟨.int .i64, s7⟩), (8, .cell ⟨.int .i64, s8⟩)], []⟩
theorem slicesIndex_eq (n : Nat) (x0 : List Int) (x1 : Int) : slicesIndex n x0 x1 =
  slicesIndex_L0 n x0 x1 ((x0.length : Nat) : Int) (0 : Int) := by kernel_rfl
theorem slicesIndex_L0_eq (n : Nat) (s0 : List Int) (s1 : Int) (s7 : Int) (s8 : Int) : slicesIndex_L0 (n + 1) s0 s1 s7 s8 =
  forkB (decide (s8 < s7))
  (if 0 ≤ s8 ∧ s8 < ((s0.length : Nat) : Int) then (forkB (s1 == (s0.getD s8.toNat (0 : Int)))
   (some s8)
   (slicesIndex_L0 n s0 s1 s7 (IntKind.i64.wrap (s8 + (1 : Int))))) else none)
  (some (-1 : Int)) := by kernel_rfl
noncomputable def slicesIndex_sp : FnSpec TT := ⟨[.val (.list (.int .i64)), .val (.int .i64)], [.val (.int .i64)], fun x => slicesIndex BIG x.1 x.2⟩
theorem slicesIndex_ok : FnOk TT Try.prog 41 slicesIndex_sp := fnOk_of (C := slicesIndex_C) (by kernel_rfl) slicesIndex_env Try.func41 (show Try.f41.body = some (bodyOf Try.f41) by kernel_rfl) (by kernel_rfl) (by kernel_rfl) (cuts := slicesIndex_cuts) fun x y h => ⟨BIG, h⟩
noncomputable def slicesContains_C : Ctx TT := ⟨tyOf, [(41, slicesIndex_sp.toCall)], 0, [], layOf⟩
theorem slicesContains_env : EnvOk TT Try.prog slicesContains_C.E := envG (fnCall_ok slicesIndex_ok) (envNil)
def slicesContains_cuts : List (Pos × Cut) := []
noncomputable def slicesContains (n : Nat) (x0 : List Int) (x1 : Int) : Option (Bool) := topF TT Try.prog slicesContains_C slicesContains_cuts Try.f29 (bodyOf Try.f29) ⟨[], []⟩ [.val (.list (.int .i64)), .val (.int .i64)] [.val (.bool)] n (x0, x1)
theorem slicesContains_eq (n : Nat) (x0 : List Int) (x1 : Int) : slicesContains n x0 x1 =
  obind (slicesIndex BIG x0 x1) fun y1 =>
  some (decide (y1 ≥ (0 : Int))) := by kernel_rfl
noncomputable def slicesContains_sp : FnSpec TT := ⟨[.val (.list (.int .i64)), .val (.int .i64)], [.val (.bool)], fun x => slicesContains BIG x.1 x.2⟩
theorem slicesContains_ok : FnOk TT Try.prog 29 slicesContains_sp := fnOk_of (C := slicesContains_C) (by kernel_rfl) slicesContains_env Try.func29 (show Try.f29.body = some (bodyOf Try.f29) by kernel_rfl) (by kernel_rfl) (by kernel_rfl) (cuts := slicesContains_cuts) fun x y h => ⟨BIG, h⟩
noncomputable def ins_within_C : Ctx TT := ⟨tyOf, [], 0, [], layOf⟩
theorem ins_within_env : EnvOk TT Try.prog ins_within_C.E := envNil
def ins_within_cuts : List (Pos × Cut) := []
noncomputable def ins_within (n : Nat) (x0 : Int) (x1 : Int) (x2 : Int) : Option (Bool) := topF TT Try.prog ins_within_C ins_within_cuts Try.f30 (bodyOf Try.f30) ⟨[], []⟩ [.val (.int .i64), .val (.int .i64), .val (.int .i64)] [.val (.bool)] n (x0, x1, x2)
theorem ins_within_eq (n : Nat) (x0 : Int) (x1 : Int) (x2 : Int) : ins_within n x0 x1 x2 =
  forkB (decide (x0 ≥ x1))
  (some (decide (x0 ≤ x2)))
  (some false) := by kernel_rfl
noncomputable def ins_within_sp : FnSpec TT := ⟨[.val (.int .i64), .val (.int .i64), .val (.int .i64)], [.val (.bool)], fun x => ins_within BIG x.1 x.2.1 x.2.2⟩
theorem ins_within_ok : FnOk TT Try.prog 30 ins_within_sp := fnOk_of (C := ins_within_C) (by kernel_rfl) ins_within_env Try.func30 (show Try.f30.body = some (bodyOf Try.f30) by kernel_rfl) (by kernel_rfl) (by kernel_rfl) (cuts := ins_within_cuts) fun x y h => ⟨BIG, h⟩
noncomputable def insRight_C : Ctx TT := ⟨tyOf, [(28, ins_fields_sp.toCall), (29, slicesContains_sp.toCall), (30, ins_within_sp.toCall)], 0, [(8, 1)], layOf⟩
theorem insRight_env : EnvOk TT Try.prog insRight_C.E := envG (fnCall_ok ins_fields_ok) (envG (fnCall_ok slicesContains_ok) (envG (fnCall_ok ins_within_ok) (envNil)))
def insRight_cuts : List (Pos × Cut) := [([true, true, true], ⟨[1, 3, 4], [], false, []⟩), ([true, true, true, true], ⟨[1, 3, 4], [], false, []⟩), ([false, true, true, true, true], ⟨[1, 3, 4, 31], [], false, []⟩), ([true, true, true, true, true], ⟨[1, 3, 4], [], false, []⟩), ([false, true, true, true, true, true], ⟨[1, 3, 4, 41], [], false, []⟩), ([true, true, true, true, true, true], ⟨[1, 3, 4], [], false, []⟩), ([true, true, true, true, true, true, true], ⟨[1, 3, 4], [], false, []⟩), ([true, true, true, true, true, true, true, true], ⟨[1, 3, 4], [], false, []⟩), ([true, true, true, true, true, true, true, true, true, true], ⟨[1, 3, 4, 5], [], false, []⟩), ([true, true, true, true, true, true, true, true, true, true, true], ⟨[1, 3, 4, 5, 6], [], false, []⟩)]
noncomputable def insRight (n : Nat) (x0 : Ins) : Option (Bool) := topF TT Try.prog insRight_C insRight_cuts Try.f14 (bodyOf Try.f14) ⟨[], []⟩ [.val (.user 0)] [.val (.bool)] n x0
noncomputable def insRight_J0 (n : Nat) (s3 : Int) (b0_0 : Int) (b0_1 : Bool) (b0_2 : Int) (b0_3 : Int) (b0_4 : Bool) (b0_5 : Int) (b0_6 : Int) (b0_7 : Int) (b1_0 : Int) (b1_1 : Bool) (b1_2 : Int) (b1_3 : Int) (b1_4 : Bool) (b1_5 : Int) (b1_6 : Int) (b1_7 : Int) : Option (Bool) := cutF TT Try.prog insRight_C insRight_cuts Try.f14 (bodyOf Try.f14) ⟨[], []⟩ [.val (.user 0)] [.val (.bool)] n [true, true, true] ⟨[(1, .ptr 0 0), (3, .cell ⟨.int .i64, s3⟩), (4, .ptr 1 0)], [.blk 28 [.cell ⟨.int .u8, b0_0⟩, .cell ⟨.bool, b0_1⟩, .cell ⟨.int .i64, b0_2⟩, .cell ⟨.int .i64, b0_3⟩, .cell ⟨.bool, b0_4⟩, .cell ⟨.int .i64, b0_5⟩, .cell ⟨.int .i64, b0_6⟩, .cell ⟨.int .i64, b0_7⟩], .blk 28 [.cell ⟨.int .u8, b1_0⟩, .cell ⟨.bool, b1_1⟩, .cell ⟨.int .i64, b1_2⟩, .cell ⟨.int .i64, b1_3⟩, .cell ⟨.bool, b1_4⟩, .cell ⟨.int .i64, b1_5⟩, .cell ⟨.int .i64, b1_6⟩, .cell ⟨.int .i64, b1_7⟩]]⟩
noncomputable def insRight_J2 (n : Nat) (s3 : Int) (s31 : Bool) (b0_0 : Int) (b0_1 : Bool) (b0_2 : Int) (b0_3 : Int) (b0_4 : Bool) (b0_5 : Int) (b0_6 : Int) (b0_7 : Int) (b1_0 : Int) (b1_1 : Bool) (b1_2 : Int) (b1_3 : Int) (b1_4 : Bool) (b1_5 : Int) (b1_6 : Int) (b1_7 : Int) : Option (Bool) := cutF TT Try.prog insRight_C insRight_cuts Try.f14 (bodyOf Try.f14) ⟨[], []⟩ [.val (.user 0)] [.val (.bool)] n [false, true, true, true, true] ⟨[(1, .ptr 0 0), (3, .cell ⟨.int .i64, s3⟩), (4, .ptr 1 0), (31, .cell ⟨.bool, s31⟩)], [.blk 28 [.cell ⟨.int .u8, b0_0⟩, .cell ⟨.bool, b0_1⟩, .cell ⟨.int .i64, b0_2⟩, .cell ⟨.int .i64, b0_3⟩, .cell ⟨.bool, b0_4⟩, .cell ⟨.int .i64, b0_5⟩, .cell ⟨.int .i64, b0_6⟩, .cell ⟨.int .i64, b0_7⟩], .blk 28 [.cell ⟨.int .u8, b1_0⟩, .cell ⟨.bool, b1_1⟩, .cell ⟨.int .i64, b1_2⟩, .cell ⟨.int .i64, b1_3⟩, .cell ⟨.bool, b1_4⟩, .cell ⟨.int .i64, b1_5⟩, .cell ⟨.int .i64, b1_6⟩, .cell ⟨.int .i64, b1_7⟩]]⟩
noncomputable def insRight_J1 (n : Nat) (s3 : Int) (b0_0 : Int) (b0_1 : Bool) (b0_2 : Int) (b0_3 : Int) (b0_4 : Bool) (b0_5 : Int) (b0_6 : Int) (b0_7 : Int) (b1_0 : Int) (b1_1 : Bool) (b1_2 : Int) (b1_3 : Int) (b1_4 : Bool) (b1_5 : Int) (b1_6 : Int) (b1_7 : Int) : Option (Bool) := cutF TT Try.prog insRight_C insRight_cuts Try.f14 (bodyOf Try.f14) ⟨[], []⟩ [.val (.user 0)] [.val (.bool)] n [true, true, true, true] ⟨[(1, .ptr 0 0), (3, .cell ⟨.int .i64, s3⟩), (4, .ptr 1 0)], [.blk 28 [.cell ⟨.int .u8, b0_0⟩, .cell ⟨.bool, b0_1⟩, .cell ⟨.int .i64, b0_2⟩, .cell ⟨.int .i64, b0_3⟩, .cell ⟨.bool, b0_4⟩, .cell ⟨.int .i64, b0_5⟩, .cell ⟨.int .i64, b0_6⟩, .cell ⟨.int .i64, b0_7⟩], .blk 28 [.cell ⟨.int .u8, b1_0⟩, .cell ⟨.bool, b1_1⟩, .cell ⟨.int .i64, b1_2⟩, .cell ⟨.int .i64, b1_3⟩, .cell ⟨.bool, b1_4⟩, .cell ⟨.int .i64, b1_5⟩, .cell ⟨.int .i64, b1_6⟩, .cell ⟨.int .i64, b1_7⟩]]⟩
noncomputable def insRight_J4 (n : Nat) (s3 : Int) (s41 : Bool) (b0_0 : Int) (b0_1 : Bool) (b0_2 : Int) (b0_3 : Int) (b0_4 : Bool) (b0_5 : Int) (b0_6 : Int) (b0_7 : Int) (b1_0 : Int) (b1_1 : Bool) (b1_2 : Int) (b1_3 : Int) (b1_4 : Bool) (b1_5 : Int) (b1_6 : Int) (b1_7 : Int) : Option (Bool) := cutF TT Try.prog insRight_C insRight_cuts Try.f14 (bodyOf Try.f14) ⟨[], []⟩ [.val (.user 0)] [.val (.bool)] n [false, true, true, true, true, true] ⟨[(1, .ptr 0 0), (3, .cell ⟨.int .i64, s3⟩), (4, .ptr 1 0), (41, .cell ⟨.bool, s41⟩)], [.blk 28 [.cell ⟨.int .u8, b0_0⟩, .cell ⟨.bool, b0_1⟩, .cell ⟨.int .i64, b0_2⟩, .cell ⟨.int .i64, b0_3⟩, .cell ⟨.bool, b0_4⟩, .cell ⟨.int .i64, b0_5⟩, .cell ⟨.int .i64, b0_6⟩, .cell ⟨.int .i64, b0_7⟩], .blk 28 [.cell ⟨.int .u8, b1_0⟩, .cell ⟨.bool, b1_1⟩, .cell ⟨.int .i64, b1_2⟩, .cell ⟨.int .i64, b1_3⟩, .cell ⟨.bool, b1_4⟩, .cell ⟨.int .i64, b1_5⟩, .cell ⟨.int .i64, b1_6⟩, .cell ⟨.int .i64, b1_7⟩]]⟩
noncomputable def insRight_J3 (n : Nat) (s3 : Int) (b0_0 : Int) (b0_1 : Bool) (b0_2 : Int) (b0_3 : Int) (b0_4 : Bool) (b0_5 : Int) (b0_6 : Int) (b0_7 : Int) (b1_0 : Int) (b1_1 : Bool) (b1_2 : Int) (b1_3 : Int) (b1_4 : Bool) (b1_5 : Int) (b1_6 : Int) (b1_7 : Int) : Option (Bool) := cutF TT Try.prog insRight_C insRight_cuts Try.f14 (bodyOf Try.f14) ⟨[], []⟩ [.val (.user 0)] [.val (.bool)] n [true, true, true, true, true] ⟨[(1, .ptr 0 0), (3, .cell ⟨.int .i64, s3⟩), (4, .ptr 1 0)], [.blk 28 [.cell ⟨.int .u8, b0_0⟩, .cell ⟨.bool, b0_1⟩, .cell ⟨.int .i64, b0_2⟩, .cell ⟨.int .i64, b0_3⟩, .cell ⟨.bool, b0_4⟩, .cell ⟨.int .i64, b0_5⟩, .cell ⟨.int .i64, b0_6⟩, .cell ⟨.int .i64, b0_7⟩], .blk 28 [.cell ⟨.int .u8, b1_0⟩, .cell ⟨.bool, b1_1⟩, .cell ⟨.int .i64, b1_2⟩, .cell ⟨.int .i64, b1_3⟩, .cell ⟨.bool, b1_4⟩, .cell ⟨.int .i64, b1_5⟩, .cell ⟨.int .i64, b1_6⟩, .cell ⟨.int .i64, b1_7⟩]]⟩
noncomputable def insRight_J5 (n : Nat) (s3 : Int) (b0_0 : Int) (b0_1 : Bool) (b0_2 : Int) (b0_3 : Int) (b0_4 : Bool) (b0_5 : Int) (b0_6 : Int) (b0_7 : Int) (b1_0 : Int) (b1_1 : Bool) (b1_2 : Int) (b1_3 : Int) (b1_4 : Bool) (b1_5 : Int) (b1_6 : Int) (b1_7 : Int) : Option (Bool) := cutF TT Try.prog insRight_C insRight_cuts Try.f14 (bodyOf Try.f14) ⟨[], []⟩ [.val (.user 0)] [.val (.bool)] n [true, true, true, true, true, true] ⟨[(1, .ptr 0 0), (3, .cell ⟨.int .i64, s3⟩), (4, .ptr 1 0)], [.blk 28 [.cell ⟨.int .u8, b0_0⟩, .cell ⟨.bool, b0_1⟩, .cell ⟨.int .i64, b0_2⟩, .cell ⟨.int .i64, b0_3⟩, .cell ⟨.bool, b0_4⟩, .cell ⟨.int .i64, b0_5⟩, .cell ⟨.int .i64, b0_6⟩, .cell ⟨.int .i64, b0_7⟩], .blk 28 [.cell ⟨.int .u8, b1_0⟩, .cell ⟨.bool, b1_1⟩, .cell ⟨.int .i64, b1_2⟩, .cell ⟨.int .i64, b1_3⟩, .cell ⟨.bool, b1_4⟩, .cell ⟨.int .i64, b1_5⟩, .cell ⟨.int .i64, b1_6⟩, .cell ⟨.int .i64, b1_7⟩]]⟩
noncomputable def insRight_J6 (n : Nat) (s3 : Int) (b0_0 : Int) (b0_1 : Bool) (b0_2 : Int) (b0_3 : Int) (b0_4 : Bool) (b0_5 : Int) (b0_6 : Int) (b0_7 : Int) (b1_0 : Int) (b1_1 : Bool) (b1_2 : Int) (b1_3 : Int) (b1_4 : Bool) (b1_5 : Int) (b1_6 : Int) (b1_7 : Int) : Option (Bool) := cutF TT Try.prog insRight_C insRight_cuts Try.f14 (bodyOf Try.f14) ⟨[], []⟩ [.val (.user 0)] [.val (.bool)] n [true, true, true, true, true, true, true] ⟨[(1, .ptr 0 0), (3, .cell ⟨.int .i64, s3⟩), (4, .ptr 1 0)], [.blk 28 [.cell ⟨.int .u8, b0_0⟩, .cell ⟨.bool, b0_1⟩, .cell ⟨.int .i64, b0_2⟩, .cell ⟨.int .i64, b0_3⟩, .cell ⟨.bool, b0_4⟩, .cell ⟨.int .i64, b0_5⟩, .cell ⟨.int .i64, b0_6⟩, .cell ⟨.int .i64, b0_7⟩], .blk 28 [.cell ⟨.int .u8, b1_0⟩, .cell ⟨.bool, b1_1⟩, .cell ⟨.int .i64, b1_2⟩, .cell ⟨.int .i64, b1_3⟩, .cell ⟨.bool, b1_4⟩, .cell ⟨.int .i64, b1_5⟩, .cell ⟨.int .i64, b1_6⟩, .cell ⟨.int .i64, b1_7⟩]]⟩
noncomputable def insRight_J7 (n : Nat) (s3 : Int) (b0_0 : Int) (b0_1 : Bool) (b0_2 : Int) (b0_3 : Int) (b0_4 : Bool) (b0_5 : Int) (b0_6 : Int) (b0_7 : Int) (b1_0 : Int) (b1_1 : Bool) (b1_2 : Int) (b1_3 : Int) (b1_4 : Bool) (b1_5 : Int) (b1_6 : Int) (b1_7 : Int) : Option (Bool) := cutF TT Try.prog insRight_C insRight_cuts Try.f14 (bodyOf Try.f14) ⟨[], []⟩ [.val (.user 0)] [.val (.bool)] n [true, true, true, true, true, true, true, true] ⟨[(1, .ptr 0 0), (3, .cell ⟨.int .i64, s3⟩), (4, .ptr 1 0)], [.blk 28 [.cell ⟨.int .u8, b0_0⟩, .cell ⟨.bool, b0_1⟩, .cell ⟨.int .i64, b0_2⟩, .cell ⟨.int .i64, b0_3⟩, .cell ⟨.bool, b0_4⟩, .cell ⟨.int .i64, b0_5⟩, .cell ⟨.int .i64, b0_6⟩, .cell ⟨.int .i64, b0_7⟩], .blk 28 [.cell ⟨.int .u8, b1_0⟩, .cell ⟨.bool, b1_1⟩, .cell ⟨.int .i64, b1_2⟩, .cell ⟨.int .i64, b1_3⟩, .cell ⟨.bool, b1_4⟩, .cell ⟨.int .i64, b1_5⟩, .cell ⟨.int .i64, b1_6⟩, .cell ⟨.int .i64, b1_7⟩]]⟩
noncomputable def insRight_J8 (n : Nat) (s3 : Int) (s5 : Int) (b0_0 : Int) (b0_1 : Bool) (b0_2 : Int) (b0_3 : Int) (b0_4 : Bool) (b0_5 : Int) (b0_6 : Int) (b0_7 : Int) (b1_0 : Int) (b1_1 : Bool) (b1_2 : Int) (b1_3 : Int) (b1_4 : Bool) (b1_5 : Int) (b1_6 : Int) (b1_7 : Int) : Option (Bool) := cutF TT Try.prog insRight_C insRight_cuts Try.f14 (bodyOf Try.f14) ⟨[], []⟩ [.val (.user 0)] [.val (.bool)] n [true, true, true, true, true, true, true, true, true, true] ⟨[(1, .ptr 0 0), (3, .cell ⟨.int .i64, s3⟩), (4, .ptr 1 0), (5, .cell ⟨.int .i64, s5⟩)], [.blk 28 [.cell ⟨.int .u8, b0_0⟩, .cell ⟨.bool, b0_1⟩, .cell ⟨.int .i64, b0_2⟩, .cell ⟨.int .i64, b0_3⟩, .cell ⟨.bool, b0_4⟩, .cell ⟨.int .i64, b0_5⟩, .cell ⟨.int .i64, b0_6⟩, .cell ⟨.int .i64, b0_7⟩], .blk 28 [.cell ⟨.int .u8, b1_0⟩, .cell ⟨.bool, b1_1⟩, .cell ⟨.int .i64, b1_2⟩, .cell ⟨.int .i64, b1_3⟩, .cell ⟨.bool, b1_4⟩, .cell ⟨.int .i64, b1_5⟩, .cell ⟨.int .i64, b1_6⟩, .cell ⟨.int .i64, b1_7⟩]]⟩
noncomputable def insRight_J9 (n : Nat) (s3 : Int) (s5 : Int) (s6 : Bool) (b0_0 : Int) (b0_1 : Bool) (b0_2 : Int) (b0_3 : Int) (b0_4 : Bool) (b0_5 : Int) (b0_6 : Int) (b0_7 : Int) (b1_0 : Int) (b1_1 : Bool) (b1_2 : Int) (b1_3 : Int) (b1_4 : Bool) (b1_5 : Int) (b1_6 : Int) (b1_7 : Int) : Option (Bool) := cutF TT Try.prog insRight_C insRight_cuts Try.f14 (bodyOf Try.f14) ⟨[], []⟩ [.val (.user 0)] [.val (.bool)] n [true, true, true, true, true, true, true, true, true, true, true] ⟨[(1, .ptr 0 0), (3, .cell ⟨.int .i64, s3⟩), (4, .ptr 1 0), (5, .cell ⟨.int .i64, s5⟩), (6, .cell ⟨.bool, s6⟩)], [.blk 28 [.cell ⟨.int .u8, b0_0⟩, .cell ⟨.bool, b0_1⟩, .cell ⟨.int .i64, b0_2⟩, .cell ⟨.int .i64, b0_3⟩, .cell ⟨.bool, b0_4⟩, .cell ⟨.int .i64, b0_5⟩, .cell ⟨.int .i64, b0_6⟩, .cell ⟨.int .i64, b0_7⟩], .blk 28 [.cell ⟨.int .u8, b1_0⟩, .cell ⟨.bool, b1_1⟩, .cell ⟨.int .i64, b1_2⟩, .cell ⟨.int .i64, b1_3⟩, .cell ⟨.bool, b1_4⟩, .cell ⟨.int .i64, b1_5⟩, .cell ⟨.int .i64, b1_6⟩, .cell ⟨.int .i64, b1_7⟩]]⟩
theorem insRight_eq (n : Nat) (x0 : Ins) : insRight n x0 =
  obind (ins_fields BIG x0.Op) fun y1 =>
  forkB ((bAnd .i64 y1 (3 : Int)) != (0 : Int))
  (insRight_J0 n y1 x0.Op x0.Narrow x0.Dst x0.Src x0.UseImm x0.Off x0.Imm x0.Size x0.Op false x0.Dst (0 : Int) false (0 : Int) (0 : Int) (0 : Int))
  (insRight_J0 n y1 x0.Op x0.Narrow x0.Dst x0.Src x0.UseImm x0.Off x0.Imm x0.Size x0.Op false (0 : Int) (0 : Int) false (0 : Int) (0 : Int) (0 : Int)) := by kernel_rfl
theorem insRight_J0_eq (n : Nat) (s3 : Int) (b0_0 : Int) (b0_1 : Bool) (b0_2 : Int) (b0_3 : Int) (b0_4 : Bool) (b0_5 : Int) (b0_6 : Int) (b0_7 : Int) (b1_0 : Int) (b1_1 : Bool) (b1_2 : Int) (b1_3 : Int) (b1_4 : Bool) (b1_5 : Int) (b1_6 : Int) (b1_7 : Int) : insRight_J0 (n + 1) s3 b0_0 b0_1 b0_2 b0_3 b0_4 b0_5 b0_6 b0_7 b1_0 b1_1 b1_2 b1_3 b1_4 b1_5 b1_6 b1_7 =
  forkB ((bAnd .i64 s3 (4 : Int)) != (0 : Int))
  (insRight_J2 n s3 true b0_0 b0_1 b0_2 b0_3 b0_4 b0_5 b0_6 b0_7 b1_0 b1_1 b1_2 b1_3 b1_4 b1_5 b1_6 b1_7)
  (forkB ((bAnd .i64 s3 (8 : Int)) != (0 : Int))
   (insRight_J2 n s3 (!b0_4) b0_0 b0_1 b0_2 b0_3 b0_4 b0_5 b0_6 b0_7 b1_0 b1_1 b1_2 b1_3 b1_4 b1_5 b1_6 b1_7)
   (insRight_J2 n s3 false b0_0 b0_1 b0_2 b0_3 b0_4 b0_5 b0_6 b0_7 b1_0 b1_1 b1_2 b1_3 b1_4 b1_5 b1_6 b1_7)) := by kernel_rfl
theorem insRight_J2_eq (n : Nat) (s3 : Int) (s31 : Bool) (b0_0 : Int) (b0_1 : Bool) (b0_2 : Int) (b0_3 : Int) (b0_4 : Bool) (b0_5 : Int) (b0_6 : Int) (b0_7 : Int) (b1_0 : Int) (b1_1 : Bool) (b1_2 : Int) (b1_3 : Int) (b1_4 : Bool) (b1_5 : Int) (b1_6 : Int) (b1_7 : Int) : insRight_J2 (n + 1) s3 s31 b0_0 b0_1 b0_2 b0_3 b0_4 b0_5 b0_6 b0_7 b1_0 b1_1 b1_2 b1_3 b1_4 b1_5 b1_6 b1_7 =
  forkB s31
  (insRight_J1 n s3 b0_0 b0_1 b0_2 b0_3 b0_4 b0_5 b0_6 b0_7 b1_0 b1_1 b1_2 b0_3 b1_4 b1_5 b1_6 b1_7)
  (insRight_J1 n s3 b0_0 b0_1 b0_2 b0_3 b0_4 b0_5 b0_6 b0_7 b1_0 b1_1 b1_2 b1_3 b1_4 b1_5 b1_6 b1_7) := by kernel_rfl
theorem insRight_J1_eq (n : Nat) (s3 : Int) (b0_0 : Int) (b0_1 : Bool) (b0_2 : Int) (b0_3 : Int) (b0_4 : Bool) (b0_5 : Int) (b0_6 : Int) (b0_7 : Int) (b1_0 : Int) (b1_1 : Bool) (b1_2 : Int) (b1_3 : Int) (b1_4 : Bool) (b1_5 : Int) (b1_6 : Int) (b1_7 : Int) : insRight_J1 (n + 1) s3 b0_0 b0_1 b0_2 b0_3 b0_4 b0_5 b0_6 b0_7 b1_0 b1_1 b1_2 b1_3 b1_4 b1_5 b1_6 b1_7 =
  forkB ((bAnd .i64 s3 (8 : Int)) != (0 : Int))
  (insRight_J4 n s3 b0_4 b0_0 b0_1 b0_2 b0_3 b0_4 b0_5 b0_6 b0_7 b1_0 b1_1 b1_2 b1_3 b1_4 b1_5 b1_6 b1_7)
  (insRight_J4 n s3 false b0_0 b0_1 b0_2 b0_3 b0_4 b0_5 b0_6 b0_7 b1_0 b1_1 b1_2 b1_3 b1_4 b1_5 b1_6 b1_7) := by kernel_rfl
theorem insRight_J4_eq (n : Nat) (s3 : Int) (s41 : Bool) (b0_0 : Int) (b0_1 : Bool) (b0_2 : Int) (b0_3 : Int) (b0_4 : Bool) (b0_5 : Int) (b0_6 : Int) (b0_7 : Int) (b1_0 : Int) (b1_1 : Bool) (b1_2 : Int) (b1_3 : Int) (b1_4 : Bool) (b1_5 : Int) (b1_6 : Int) (b1_7 : Int) : insRight_J4 (n + 1) s3 s41 b0_0 b0_1 b0_2 b0_3 b0_4 b0_5 b0_6 b0_7 b1_0 b1_1 b1_2 b1_3 b1_4 b1_5 b1_6 b1_7 =
  forkB s41
  (insRight_J3 n s3 b0_0 b0_1 b0_2 b0_3 b0_4 b0_5 b0_6 b0_7 b1_0 b1_1 b1_2 b1_3 true b1_5 b0_6 b1_7)
  (insRight_J3 n s3 b0_0 b0_1 b0_2 b0_3 b0_4 b0_5 b0_6 b0_7 b1_0 b1_1 b1_2 b1_3 b1_4 b1_5 b1_6 b1_7) := by kernel_rfl
theorem insRight_J3_eq (n : Nat) (s3 : Int) (b0_0 : Int) (b0_1 : Bool) (b0_2 : Int) (b0_3 : Int) (b0_4 : Bool) (b0_5 : Int) (b0_6 : Int) (b0_7 : Int) (b1_0 : Int) (b1_1 : Bool) (b1_2 : Int) (b1_3 : Int) (b1_4 : Bool) (b1_5 : Int) (b1_6 : Int) (b1_7 : Int) : insRight_J3 (n + 1) s3 b0_0 b0_1 b0_2 b0_3 b0_4 b0_5 b0_6 b0_7 b1_0 b1_1 b1_2 b1_3 b1_4 b1_5 b1_6 b1_7 =
  forkB ((bAnd .i64 s3 (16 : Int)) != (0 : Int))
  (insRight_J5 n s3 b0_0 b0_1 b0_2 b0_3 b0_4 b0_5 b0_6 b0_7 b1_0 b1_1 b1_2 b1_3 b1_4 b0_5 b1_6 b1_7)
  (insRight_J5 n s3 b0_0 b0_1 b0_2 b0_3 b0_4 b0_5 b0_6 b0_7 b1_0 b1_1 b1_2 b1_3 b1_4 b1_5 b1_6 b1_7) := by kernel_rfl
theorem insRight_J5_eq (n : Nat) (s3 : Int) (b0_0 : Int) (b0_1 : Bool) (b0_2 : Int) (b0_3 : Int) (b0_4 : Bool) (b0_5 : Int) (b0_6 : Int) (b0_7 : Int) (b1_0 : Int) (b1_1 : Bool) (b1_2 : Int) (b1_3 : Int) (b1_4 : Bool) (b1_5 : Int) (b1_6 : Int) (b1_7 : Int) : insRight_J5 (n + 1) s3 b0_0 b0_1 b0_2 b0_3 b0_4 b0_5 b0_6 b0_7 b1_0 b1_1 b1_2 b1_3 b1_4 b1_5 b1_6 b1_7 =
  forkB ((bAnd .i64 s3 (32 : Int)) != (0 : Int))
  (insRight_J6 n s3 b0_0 b0_1 b0_2 b0_3 b0_4 b0_5 b0_6 b0_7 b1_0 b1_1 b1_2 b1_3 b1_4 b1_5 b1_6 b0_7)
  (insRight_J6 n s3 b0_0 b0_1 b0_2 b0_3 b0_4 b0_5 b0_6 b0_7 b1_0 b1_1 b1_2 b1_3 b1_4 b1_5 b1_6 b1_7) := by kernel_rfl
theorem insRight_J6_eq (n : Nat) (s3 : Int) (b0_0 : Int) (b0_1 : Bool) (b0_2 : Int) (b0_3 : Int) (b0_4 : Bool) (b0_5 : Int) (b0_6 : Int) (b0_7 : Int) (b1_0 : Int) (b1_1 : Bool) (b1_2 : Int) (b1_3 : Int) (b1_4 : Bool) (b1_5 : Int) (b1_6 : Int) (b1_7 : Int) : insRight_J6 (n + 1) s3 b0_0 b0_1 b0_2 b0_3 b0_4 b0_5 b0_6 b0_7 b1_0 b1_1 b1_2 b1_3 b1_4 b1_5 b1_6 b1_7 =
  forkB ((bAnd .i64 s3 (64 : Int)) != (0 : Int))
  (insRight_J7 n s3 b0_0 b0_1 b0_2 b0_3 b0_4 b0_5 b0_6 b0_7 b1_0 b0_1 b1_2 b1_3 b1_4 b1_5 b1_6 b1_7)
  (insRight_J7 n s3 b0_0 b0_1 b0_2 b0_3 b0_4 b0_5 b0_6 b0_7 b1_0 b1_1 b1_2 b1_3 b1_4 b1_5 b1_6 b1_7) := by kernel_rfl
theorem insRight_J7_eq (n : Nat) (s3 : Int) (b0_0 : Int) (b0_1 : Bool) (b0_2 : Int) (b0_3 : Int) (b0_4 : Bool) (b0_5 : Int) (b0_6 : Int) (b0_7 : Int) (b1_0 : Int) (b1_1 : Bool) (b1_2 : Int) (b1_3 : Int) (b1_4 : Bool) (b1_5 : Int) (b1_6 : Int) (b1_7 : Int) : insRight_J7 (n + 1) s3 b0_0 b0_1 b0_2 b0_3 b0_4 b0_5 b0_6 b0_7 b1_0 b1_1 b1_2 b1_3 b1_4 b1_5 b1_6 b1_7 =
  forkB ((bAnd .i64 s3 (1 : Int)) != (0 : Int))
  (insRight_J8 n s3 (9 : Int) b0_0 b0_1 b0_2 b0_3 b0_4 b0_5 b0_6 b0_7 b1_0 b1_1 b1_2 b1_3 b1_4 b1_5 b1_6 b1_7)
  (insRight_J8 n s3 (10 : Int) b0_0 b0_1 b0_2 b0_3 b0_4 b0_5 b0_6 b0_7 b1_0 b1_1 b1_2 b1_3 b1_4 b1_5 b1_6 b1_7) := by kernel_rfl
theorem insRight_J8_eq (n : Nat) (s3 : Int) (s5 : Int) (b0_0 : Int) (b0_1 : Bool) (b0_2 : Int) (b0_3 : Int) (b0_4 : Bool) (b0_5 : Int) (b0_6 : Int) (b0_7 : Int) (b1_0 : Int) (b1_1 : Bool) (b1_2 : Int) (b1_3 : Int) (b1_4 : Bool) (b1_5 : Int) (b1_6 : Int) (b1_7 : Int) : insRight_J8 (n + 1) s3 s5 b0_0 b0_1 b0_2 b0_3 b0_4 b0_5 b0_6 b0_7 b1_0 b1_1 b1_2 b1_3 b1_4 b1_5 b1_6 b1_7 =
  forkB ((bAnd .i64 s3 (32 : Int)) == (0 : Int))
  (insRight_J9 n s3 s5 true b0_0 b0_1 b0_2 b0_3 b0_4 b0_5 b0_6 b0_7 b1_0 b1_1 b1_2 b1_3 b1_4 b1_5 b1_6 b1_7)
  (obind (slicesContains BIG ([(1 : Int), (2 : Int), (4 : Int), (8 : Int)] : List Int) b0_7) fun y1 =>
   insRight_J9 n s3 s5 y1 b0_0 b0_1 b0_2 b0_3 b0_4 b0_5 b0_6 b0_7 b1_0 b1_1 b1_2 b1_3 b1_4 b1_5 b1_6 b1_7) := by kernel_rfl
theorem insRight_J9_eq (n : Nat) (s3 : Int) (s5 : Int) (s6 : Bool) (b0_0 : Int) (b0_1 : Bool) (b0_2 : Int) (b0_3 : Int) (b0_4 : Bool) (b0_5 : Int) (b0_6 : Int) (b0_7 : Int) (b1_0 : Int) (b1_1 : Bool) (b1_2 : Int) (b1_3 : Int) (b1_4 : Bool) (b1_5 : Int) (b1_6 : Int) (b1_7 : Int) : insRight_J9 (n + 1) s3 s5 s6 b0_0 b0_1 b0_2 b0_3 b0_4 b0_5 b0_6 b0_7 b1_0 b1_1 b1_2 b1_3 b1_4 b1_5 b1_6 b1_7 =
  forkB (s3 != (0 : Int))
  (forkB ((b0_0 == b1_0) && ((b0_1 == b1_1) && ((b0_2 == b1_2) && ((b0_3 == b1_3) && ((b0_4 == b1_4) && ((b0_5 == b1_5) && ((b0_6 == b1_6) && (b0_7 == b1_7))))))))
   (obind (ins_within BIG b0_2 (0 : Int) s5) fun y1 =>
    forkB y1
    (obind (ins_within BIG b0_3 (0 : Int) (10 : Int)) fun y2 =>
     forkB y2
     (obind (ins_within BIG b0_5 (-32768 : Int) (32767 : Int)) fun y3 =>
      forkB y3
      (obind (ins_within BIG b0_6 (-2147483648 : Int) (2147483647 : Int)) fun y4 =>
       forkB y4
       (some s6)
       (some false))
      (some false))
     (some false))
    (some false))
   (some false))
  (some false) := by kernel_rfl
noncomputable def insRight_sp : FnSpec TT := ⟨[.val (.user 0)], [.val (.bool)], fun x => insRight BIG x⟩
theorem insRight_ok : FnOk TT Try.prog 14 insRight_sp := fnOk_of (C := insRight_C) (by kernel_rfl) insRight_env Try.func14 (show Try.f14.body = some (bodyOf Try.f14) by kernel_rfl) (by kernel_rfl) (by kernel_rfl) (cuts := insRight_cuts) fun x y h => ⟨BIG, h⟩
noncomputable def shape_when_C : Ctx TT := ⟨tyOf, [], 0, [], layOf⟩
theorem shape_when_env : EnvOk TT Try.prog shape_when_C.E := envNil
def shape_when_cuts : List (Pos × Cut) := []
noncomputable def shape_when (n : Nat) (x0 : Bool) (x1 : Int) : Option (Int) := topF TT Try.prog shape_when_C shape_when_cuts Try.f13 (bodyOf Try.f13) ⟨[], []⟩ [.val (.bool), .val (.int .i64)] [.val (.int .i64)] n (x0, x1)
theorem shape_when_eq (n : Nat) (x0 : Bool) (x1 : Int) : shape_when n x0 x1 =
  forkB x0
  (some x1)
  (some (0 : Int)) := by kernel_rfl
noncomputable def shape_when_sp : FnSpec TT := ⟨[.val (.bool), .val (.int .i64)], [.val (.int .i64)], fun x => shape_when BIG x.1 x.2⟩
theorem shape_when_ok : FnOk TT Try.prog 13 shape_when_sp := fnOk_of (C := shape_when_C) (by kernel_rfl) shape_when_env Try.func13 (show Try.f13.body = some (bodyOf Try.f13) by kernel_rfl) (by kernel_rfl) (by kernel_rfl) (cuts := shape_when_cuts) fun x y h => ⟨BIG, h⟩
noncomputable def shapeCheck_1_g1_C : Ctx TT := ⟨tyOf, [(14, insRight_sp.toCall), (13, shape_when_sp.toCall)], 1, [], layOf⟩
theorem shapeCheck_1_g1_env : EnvOk TT Try.prog shapeCheck_1_g1_C.E := envG (fnCall_ok insRight_ok) (envG (fnCall_ok shape_when_ok) (envNil))
def shapeCheck_1_g1_cuts : List (Pos × Cut) := []
noncomputable def shapeCheck_1_g1 (n : Nat) (x0 : Int) (x1 : List Ins) : Option (((List Ins × Unit) × Unit) × (Int × Unit)) := topG TT Try.prog shapeCheck_1_g1_C shapeCheck_1_g1_cuts Try.f12 (bodyOf Try.f12) ⟨[], [], [], [], []⟩ [.val (.int .i64), .ptr 0 29 [.val (.list (.user 0))]] [.blk 29 [.val (.list (.user 0))]] [.val (.int .i64)] n (x0, (x1, ()), ())
theorem shapeCheck_1_g1_eq (n : Nat) (x0 : Int) (x1 : List Ins) : shapeCheck_1_g1 n x0 x1 =
  if 0 ≤ x0 ∧ x0 < ((x1.length : Nat) : Int) then (obind (insRight BIG (x1.getD x0.toNat dIns)) fun y1 =>
  obind (shape_when BIG (!y1) (4 : Int)) fun y2 =>
  some (((x1, ()), ()), (y2, ()))) else none := by kernel_rfl
noncomputable def shapeCheck_1_g1_sp : GSpec TT := ⟨[.val (.int .i64), .ptr 0 29 [.val (.list (.user 0))]], [.blk 29 [.val (.list (.user 0))]], [.val (.int .i64)], fun x => shapeCheck_1_g1 BIG x.1 x.2.1.1⟩
theorem shapeCheck_1_g1_ok : GOk TT Try.prog 12 shapeCheck_1_g1_sp := gOk_of (C := shapeCheck_1_g1_C) (cuts := shapeCheck_1_g1_cuts) (by kernel_rfl) shapeCheck_1_g1_env Try.func12 (show Try.f12.body = some (bodyOf Try.f12) by kernel_rfl) (by kernel_rfl) (by kernel_rfl) (by kernel_rfl) fun x y h => ⟨BIG, h⟩
noncomputable def insJumps_C : Ctx TT := ⟨tyOf, [], 0, [], layOf⟩
theorem insJumps_env : EnvOk TT Try.prog insJumps_C.E := envNil
def insJumps_cuts : List (Pos × Cut) := []
noncomputable def insJumps (n : Nat) (x0 : Ins) : Option (Bool) := topF TT Try.prog insJumps_C insJumps_cuts Try.f16 (bodyOf Try.f16) ⟨[], []⟩ [.val (.user 0)] [.val (.bool)] n x0
theorem insJumps_eq (n : Nat) (x0 : Ins) : insJumps n x0 =
  forkB (decide (x0.Op ≥ (16 : Int)))
  (some (decide (x0.Op ≤ (27 : Int))))
  (some false) := by kernel_rfl
noncomputable def insJumps_sp : FnSpec TT := ⟨[.val (.user 0)], [.val (.bool)], fun x => insJumps BIG x⟩
theorem insJumps_ok : FnOk TT Try.prog 16 insJumps_sp := fnOk_of (C := insJumps_C) (by kernel_rfl) insJumps_env Try.func16 (show Try.f16.body = some (bodyOf Try.f16) by kernel_rfl) (by kernel_rfl) (by kernel_rfl) (cuts := insJumps_cuts) fun x y h => ⟨BIG, h⟩
noncomputable def shapeCheck_2_g1_C : Ctx TT := ⟨tyOf, [(16, insJumps_sp.toCall), (13, shape_when_sp.toCall)], 1, [], layOf⟩
theorem shapeCheck_2_g1_env : EnvOk TT Try.prog shapeCheck_2_g1_C.E := envG (fnCall_ok insJumps_ok) (envG (fnCall_ok shape_when_ok) (envNil))
def shapeCheck_2_g1_cuts : List (Pos × Cut) := []
noncomputable def shapeCheck_2_g1 (n : Nat) (x0 : Int) (x1 : List Ins) : Option (((List Ins × Unit) × Unit) × (Int × Unit)) := topG TT Try.prog shapeCheck_2_g1_C shapeCheck_2_g1_cuts Try.f15 (bodyOf Try.f15) ⟨[], [], [], [], []⟩ [.val (.int .i64), .ptr 0 29 [.val (.list (.user 0))]] [.blk 29 [.val (.list (.user 0))]] [.val (.int .i64)] n (x0, (x1, ()), ())
theorem shapeCheck_2_g1_eq (n : Nat) (x0 : Int) (x1 : List Ins) : shapeCheck_2_g1 n x0 x1 =
  if 0 ≤ x0 ∧ x0 < ((x1.length : Nat) : Int) then (if 0 ≤ x0 ∧ x0 < ((x1.length : Nat) : Int) then (obind (insJumps BIG (x1.getD x0.toNat dIns)) fun y1 =>
  forkB (!y1)
  (some (((x1, ()), ()), ((0 : Int), ())))
  (forkB (decide ((IntKind.i64.wrap ((IntKind.i64.wrap (x0 + (1 : Int))) + ((x1.getD x0.toNat dIns).Off))) ≤ x0))
   (some (((x1, ()), ()), ((100 : Int), ())))
   (obind (shape_when BIG (decide ((IntKind.i64.wrap ((IntKind.i64.wrap (x0 + (1 : Int))) + ((x1.getD x0.toNat dIns).Off))) ≥ ((x1.length : Nat) : Int))) (101 : Int)) fun y2 =>
    some (((x1, ()), ()), (y2, ()))))) else none) else none := by kernel_rfl
noncomputable def shapeCheck_2_g1_sp : GSpec TT := ⟨[.val (.int .i64), .ptr 0 29 [.val (.list (.user 0))]], [.blk 29 [.val (.list (.user 0))]], [.val (.int .i64)], fun x => shapeCheck_2_g1 BIG x.1 x.2.1.1⟩
theorem shapeCheck_2_g1_ok : GOk TT Try.prog 15 shapeCheck_2_g1_sp := gOk_of (C := shapeCheck_2_g1_C) (cuts := shapeCheck_2_g1_cuts) (by kernel_rfl) shapeCheck_2_g1_env Try.func15 (show Try.f15.body = some (bodyOf Try.f15) by kernel_rfl) (by kernel_rfl) (by kernel_rfl) (by kernel_rfl) fun x y h => ⟨BIG, h⟩
noncomputable def shapeCheck_3_g1_C : Ctx TT := ⟨tyOf, [(13, shape_when_sp.toCall)], 1, [], layOf⟩
theorem shapeCheck_3_g1_env : EnvOk TT Try.prog shapeCheck_3_g1_C.E := envG (fnCall_ok shape_when_ok) (envNil)
def shapeCheck_3_g1_cuts : List (Pos × Cut) := []
noncomputable def shapeCheck_3_g1 (n : Nat) (x0 : Int) (x1 : List Ins) : Option (((List Ins × Unit) × Unit) × (Int × Unit)) := topG TT Try.prog shapeCheck_3_g1_C shapeCheck_3_g1_cuts Try.f17 (bodyOf Try.f17) ⟨[], [], [], [], []⟩ [.val (.int .i64), .ptr 0 29 [.val (.list (.user 0))]] [.blk 29 [.val (.list (.user 0))]] [.val (.int .i64)] n (x0, (x1, ()), ())
theorem shapeCheck_3_g1_eq (n : Nat) (x0 : Int) (x1 : List Ins) : shapeCheck_3_g1 n x0 x1 =
  forkB (x0 == (IntKind.i64.wrap (((x1.length : Nat) : Int) - (1 : Int))))
  (if 0 ≤ x0 ∧ x0 < ((x1.length : Nat) : Int) then (forkB (((x1.getD x0.toNat dIns).Op) != (28 : Int))
   (if 0 ≤ x0 ∧ x0 < ((x1.length : Nat) : Int) then (obind (shape_when BIG (((x1.getD x0.toNat dIns).Op) != (16 : Int)) (102 : Int)) fun y1 =>
    some (((x1, ()), ()), (y1, ()))) else none)
   (obind (shape_when BIG false (102 : Int)) fun y2 =>
    some (((x1, ()), ()), (y2, ())))) else none)
  (obind (shape_when BIG false (102 : Int)) fun y3 =>
   some (((x1, ()), ()), (y3, ()))) := by kernel_rfl
noncomputable def shapeCheck_3_g1_sp : GSpec TT := ⟨[.val (.int .i64), .ptr 0 29 [.val (.list (.user 0))]], [.blk 29 [.val (.list (.user 0))]], [.val (.int .i64)], fun x => shapeCheck_3_g1 BIG x.1 x.2.1.1⟩
theorem shapeCheck_3_g1_ok : GOk TT Try.prog 17 shapeCheck_3_g1_sp := gOk_of (C := shapeCheck_3_g1_C) (cuts := shapeCheck_3_g1_cuts) (by kernel_rfl) shapeCheck_3_g1_env Try.func17 (show Try.f17.body = some (bodyOf Try.f17) by kernel_rfl) (by kernel_rfl) (by kernel_rfl) (by kernel_rfl) fun x y h => ⟨BIG, h⟩
def str0 : ByteArray := ⟨#[0, 1, 2, 2, 3, 3, 3, 3, 4, 4, 4, 4, 4, 4, 4, 4, 5, 5, 5, 5, 5, 5, 5, 5, 5, 5, 5, 5, 5, 5, 5, 5, 6, 6, 6, 6, 6, 6, 6, 6, 6, 6, 6, 6, 6, 6, 6, 6, 6, 6, 6, 6, 6, 6, 6, 6, 6, 6, 6, 6, 6, 6, 6, 6, 7, 7, 7, 7, 7, 7, 7, 7, 7, 7, 7, 7, 7, 7, 7, 7, 7, 7, 7, 7, 7, 7, 7, 7, 7, 7, 7, 7, 7, 7, 7, 7, 7, 7, 7, 7, 7, 7, 7, 7, 7, 7, 7, 7, 7, 7, 7, 7, 7, 7, 7, 7, 7, 7, 7, 7, 7, 7, 7, 7, 7, 7, 7, 7, 8, 8, 8, 8, 8, 8, 8, 8, 8, 8, 8, 8, 8, 8, 8, 8, 8, 8, 8, 8, 8, 8, 8, 8, 8, 8, 8, 8, 8, 8, 8, 8, 8, 8, 8, 8, 8, 8, 8, 8, 8, 8, 8, 8, 8, 8, 8, 8, 8, 8, 8, 8, 8, 8, 8, 8, 8, 8, 8, 8, 8, 8, 8, 8, 8, 8, 8, 8, 8, 8, 8, 8, 8, 8, 8, 8, 8, 8, 8, 8, 8, 8, 8, 8, 8, 8, 8, 8, 8, 8, 8, 8, 8, 8, 8, 8, 8, 8, 8, 8, 8, 8, 8, 8, 8, 8, 8, 8, 8, 8, 8, 8, 8, 8, 8, 8, 8, 8, 8, 8, 8, 8, 8, 8, 8, 8, 8, 8]⟩
noncomputable def bitsLen64_C : Ctx TT := ⟨tyOf, [], 0, [], layOf⟩
theorem bitsLen64_env : EnvOk TT Try.prog bitsLen64_C.E := envNil
def bitsLen64_cuts : List (Pos × Cut) := [([true], ⟨[0, 2], [], false, []⟩), ([true, true], ⟨[0, 2], [], false, []⟩), ([true, true, true], ⟨[0, 2], [], false, []⟩)]
noncomputable def bitsLen64 (n : Nat) (x0 : Int) : Option (Int) := topF TT Try.prog bitsLen64_C bitsLen64_cuts Try.f63 (bodyOf Try.f63) ⟨[], []⟩ [.val (.int .u64)] [.val (.int .i64)] n x0
noncomputable def bitsLen64_J0 (n : Nat) (s0 : Int) (s2 : Int) : Option (Int) := cutF TT Try.prog bitsLen64_C bitsLen64_cuts Try.f63 (bodyOf Try.f63) ⟨[], []⟩ [.val (.int .u64)] [.val (.int .i64)] n [true] ⟨[(0, .cell ⟨.int .u64, s0⟩), (2, .cell ⟨.int .i64, s2⟩)], []⟩
noncomputable def bitsLen64_J1 (n : Nat) (s0 : Int) (s2 : Int) : Option (Int) := cutF TT Try.prog bitsLen64_C bitsLen64_cuts Try.f63 (bodyOf Try.f63) ⟨[], []⟩ [.val (.int .u64)] [.val (.int .i64)] n [true, true] ⟨[(0, .cell ⟨.int .u64, s0⟩), (2, .cell ⟨.int .i64, s2⟩)], []⟩
noncomputable def bitsLen64_J2 (n : Nat) (s0 : Int) (s2 : Int) : Option (Int) := cutF TT Try.prog bitsLen64_C bitsLen64_cuts Try.f63 (bodyOf Try.f63) ⟨[], []⟩ [.val (.int .u64)] [.val (.int .i64)] n [true, true, true] ⟨[(0, .cell ⟨.int .u64, s0⟩), (2, .cell ⟨.int .i64, s2⟩)], []⟩
theorem bitsLen64_eq (n : Nat) (x0 : Int) : bitsLen64 n x0 =
  forkB (decide (x0 ≥ (4294967296 : Int)))
  (bitsLen64_J0 n (sShr .u64 x0 (32 : Int)) (32 : Int))
  (bitsLen64_J0 n x0 (0 : Int)) := by kernel_rfl
theorem bitsLen64_J0_eq (n : Nat) (s0 : Int) (s2 : Int) : bitsLen64_J0 (n + 1) s0 s2 =
  forkB (decide (s0 ≥ (65536 : Int)))
  (bitsLen64_J1 n (sShr .u64 s0 (16 : Int)) (IntKind.i64.wrap (s2 + (16 : Int))))
  (bitsLen64_J1 n s0 s2) := by kernel_rfl
theorem bitsLen64_J1_eq (n : Nat) (s0 : Int) (s2 : Int) : bitsLen64_J1 (n + 1) s0 s2 =
  forkB (decide (s0 ≥ (256 : Int)))
  (bitsLen64_J2 n (sShr .u64 s0 (8 : Int)) (IntKind.i64.wrap (s2 + (8 : Int))))
  (bitsLen64_J2 n s0 s2) := by kernel_rfl
theorem bitsLen64_J2_eq (n : Nat) (s0 : Int) (s2 : Int) : bitsLen64_J2 (n + 1) s0 s2 =
  strAt str0 (IntKind.u8.wrap s0) fun y1 =>
  some (IntKind.i64.wrap (s2 + (IntKind.i64.wrap y1))) := by kernel_rfl
noncomputable def bitsLen64_sp : FnSpec TT := ⟨[.val (.int .u64)], [.val (.int .i64)], fun x => bitsLen64 BIG x⟩
theorem bitsLen64_ok : FnOk TT Try.prog 63 bitsLen64_sp := fnOk_of (C := bitsLen64_C) (by kernel_rfl) bitsLen64_env Try.func63 (show Try.f63.body = some (bodyOf Try.f63) by kernel_rfl) (by kernel_rfl) (by kernel_rfl) (cuts := bitsLen64_cuts) fun x y h => ⟨BIG, h⟩
noncomputable def bitsLen_C : Ctx TT := ⟨tyOf, [(63, bitsLen64_sp.toCall)], 0, [], layOf⟩
theorem bitsLen_env : EnvOk TT Try.prog bitsLen_C.E := envG (fnCall_ok bitsLen64_ok) (envNil)
def bitsLen_cuts : List (Pos × Cut) := []
noncomputable def bitsLen (n : Nat) (x0 : Int) : Option (Int) := topF TT Try.prog bitsLen_C bitsLen_cuts Try.f43 (bodyOf Try.f43) ⟨[], []⟩ [.val (.int .u64)] [.val (.int .i64)] n x0
theorem bitsLen_eq (n : Nat) (x0 : Int) : bitsLen n x0 =
  obind (bitsLen64 BIG x0) fun y1 =>
  some y1 := by kernel_rfl
noncomputable def bitsLen_sp : FnSpec TT := ⟨[.val (.int .u64)], [.val (.int .i64)], fun x => bitsLen BIG x⟩
theorem bitsLen_ok : FnOk TT Try.prog 43 bitsLen_sp := fnOk_of (C := bitsLen_C) (by kernel_rfl) bitsLen_env Try.func43 (show Try.f43.body = some (bodyOf Try.f43) by kernel_rfl) (by kernel_rfl) (by kernel_rfl) (cuts := bitsLen_cuts) fun x y h => ⟨BIG, h⟩
noncomputable def cmp_isNaN_C : Ctx TT := ⟨tyOf, [], 0, [], layOf⟩
theorem cmp_isNaN_env : EnvOk TT Try.prog cmp_isNaN_C.E := envNil
def cmp_isNaN_cuts : List (Pos × Cut) := []
noncomputable def cmp_isNaN (n : Nat) (x0 : Int) : Option (Bool) := topF TT Try.prog cmp_isNaN_C cmp_isNaN_cuts Try.f98 (bodyOf Try.f98) ⟨[], []⟩ [.val (.int .i64)] [.val (.bool)] n x0
theorem cmp_isNaN_eq (n : Nat) (x0 : Int) : cmp_isNaN n x0 =
  some (x0 != x0) := by kernel_rfl
noncomputable def cmp_isNaN_sp : FnSpec TT := ⟨[.val (.int .i64)], [.val (.bool)], fun x => cmp_isNaN BIG x⟩
theorem cmp_isNaN_ok : FnOk TT Try.prog 98 cmp_isNaN_sp := fnOk_of (C := cmp_isNaN_C) (by kernel_rfl) cmp_isNaN_env Try.func98 (show Try.f98.body = some (bodyOf Try.f98) by kernel_rfl) (by kernel_rfl) (by kernel_rfl) (cuts := cmp_isNaN_cuts) fun x y h => ⟨BIG, h⟩
noncomputable def cmpLess_C : Ctx TT := ⟨tyOf, [(98, cmp_isNaN_sp.toCall)], 0, [], layOf⟩
theorem cmpLess_env : EnvOk TT Try.prog cmpLess_C.E := envG (fnCall_ok cmp_isNaN_ok) (envNil)
def cmpLess_cuts : List (Pos × Cut) := []
noncomputable def cmpLess (n : Nat) (x0 : Int) (x1 : Int) : Option (Bool) := topF TT Try.prog cmpLess_C cmpLess_cuts Try.f59 (bodyOf Try.f59) ⟨[], []⟩ [.val (.int .i64), .val (.int .i64)] [.val (.bool)] n (x0, x1)
theorem cmpLess_eq (n : Nat) (x0 : Int) (x1 : Int) : cmpLess n x0 x1 =
  obind (cmp_isNaN BIG x0) fun y1 =>
  forkB y1
  (obind (cmp_isNaN BIG x1) fun y2 =>
   forkB (!y2)
   (some true)
   (some (decide (x0 < x1))))
  (some (decide (x0 < x1))) := by kernel_rfl
noncomputable def cmpLess_sp : FnSpec TT := ⟨[.val (.int .i64), .val (.int .i64)], [.val (.bool)], fun x => cmpLess BIG x.1 x.2⟩
theorem cmpLess_ok : FnOk TT Try.prog 59 cmpLess_sp := fnOk_of (C := cmpLess_C) (by kernel_rfl) cmpLess_env Try.func59 (show Try.f59.body = some (bodyOf Try.f59) by kernel_rfl) (by kernel_rfl) (by kernel_rfl) (cuts := cmpLess_cuts) fun x y h => ⟨BIG, h⟩
noncomputable def slices_insertionSortOrdered_C : Ctx TT := ⟨tyOf, [(59, cmpLess_sp.toCall)], 1, [(6, 1)], layOf⟩
theorem slices_insertionSortOrdered_env : EnvOk TT Try.prog slices_insertionSortOrdered_C.E := envG (fnCall_ok cmpLess_ok) (envNil)
def slices_insertionSortOrdered_cuts : List (Pos × Cut) := [([false, true], ⟨[0, 1, 2, 6], [], false, []⟩), ([false, true, false, false, true, false, false, true], ⟨[0, 1, 2, 6, 7], [], false, []⟩), ([false, false, false, true, false, false, true, false, false, true], ⟨[0, 1, 2, 6, 7, 30], [], false, []⟩)]
noncomputable def slices_insertionSortOrdered (n : Nat) (x0 : List Int) (x1 : Int) (x2 : Int) : Option (List Int × Unit) := topF TT Try.prog slices_insertionSortOrdered_C slices_insertionSortOrdered_cuts Try.f53 (bodyOf Try.f53) ⟨[], []⟩ [.io 3 (.int .i64), .val (.int .i64), .val (.int .i64)] [] n (x0, x1, x2)
noncomputable def slices_insertionSortOrdered_L0 (n : Nat) (s1 : Int) (s2 : Int) (s6 : Int) (r0 : List Int) : Option (List Int × Unit) := cutF TT Try.prog slices_insertionSortOrdered_C slices_insertionSortOrdered_cuts Try.f53 (bodyOf Try.f53) ⟨[], []⟩ [.io 3 (.int .i64), .val (.int .i64), .val (.int .i64)] [] n [false, true] ⟨[(0, .own 0), (1, .cell ⟨.int .i64, s1⟩), (2, .cell ⟨.int .i64, s2⟩), (6, .cell ⟨.int .i64, s6⟩)], [.row 3 (.int .i64) r0]⟩
noncomputable def slices_insertionSortOrdered_L1 (n : Nat) (s1 : Int) (s2 : Int) (s6 : Int) (s7 : Int) (r0 : List Int) : Option (List Int × Unit) := cutF TT Try.prog slices_insertionSortOrdered_C slices_insertionSortOrdered_cuts Try.f53 (bodyOf Try.f53) ⟨[], []⟩ [.io 3 (.int .i64), .val (.int .i64), .val (.int .i64)] [] n [false, true, false, false, true, false, false, true] ⟨[(0, .own 0), (1, .cell ⟨.int .i64, s1⟩), (2, .cell ⟨.int .i64, s2⟩), (6, .cell ⟨.int .i64, s6⟩), (7, .cell ⟨.int .i64, s7⟩)], [.row 3 (.int .i64) r0]⟩
noncomputable def slices_insertionSortOrdered_J2 (n : Nat) (s1 : Int) (s2 : Int) (s6 : Int) (s7 : Int) (s30 : Bool) (r0 : List Int) : Option (List Int × Unit) := cutF TT Try.prog slices_insertionSortOrdered_C slices_insertionSortOrdered_cuts Try.f53 (bodyOf Try.f53) ⟨[], []⟩ [.io 3 (.int .i64), .val (.int .i64), .val (.int .i64)] [] n [false, false, false, true, false, false, true, false, false, true] ⟨[(0, .own 0), (1, .cell ⟨.int .i64, s1⟩), (2, .cell ⟨.int .i64, s2⟩), (6, .cell ⟨.int .i64, s6⟩), (7, .cell ⟨.int .i64, s7⟩), (30, .cell ⟨.bool, s30⟩)], [.row 3 (.int .i64) r0]⟩
theorem slices_insertionSortOrdered_eq (n : Nat) (x0 : List Int) (x1 : Int) (x2 : Int) : slices_insertionSortOrdered n x0 x1 x2 =
  slices_insertionSortOrdered_L0 n x1 x2 (IntKind.i64.wrap (x1 + (1 : Int))) x0 := by kernel_rfl
theorem slices_insertionSortOrdered_L0_eq (n : Nat) (s1 : Int) (s2 : Int) (s6 : Int) (r0 : List Int) : slices_insertionSortOrdered_L0 (n + 1) s1 s2 s6 r0 =
  forkB (decide (s6 < s2))
  (slices_insertionSortOrdered_L1 n s1 s2 s6 s6 r0)
  (some (r0, ())) := by kernel_rfl
theorem slices_insertionSortOrdered_L1_eq (n : Nat) (s1 : Int) (s2 : Int) (s6 : Int) (s7 : Int) (r0 : List Int) : slices_insertionSortOrdered_L1 (n + 1) s1 s2 s6 s7 r0 =
  forkB (decide (s7 > s1))
  (if 0 ≤ s7 ∧ s7 < ((r0.length : Nat) : Int) then (if 0 ≤ IntKind.i64.wrap (s7 - (1 : Int)) ∧ IntKind.i64.wrap (s7 - (1 : Int)) < ((r0.length : Nat) : Int) then (obind (cmpLess BIG (r0.getD s7.toNat (0 : Int)) (r0.getD ((IntKind.i64.wrap (s7 - (1 : Int))).toNat) (0 : Int))) fun y1 =>
   slices_insertionSortOrdered_J2 n s1 s2 s6 s7 y1 r0) else none) else none)
  (slices_insertionSortOrdered_J2 n s1 s2 s6 s7 false r0) := by kernel_rfl
theorem slices_insertionSortOrdered_J2_eq (n : Nat) (s1 : Int) (s2 : Int) (s6 : Int) (s7 : Int) (s30 : Bool) (r0 : List Int) : slices_insertionSortOrdered_J2 (n + 1) s1 s2 s6 s7 s30 r0 =
  forkB s30
  (if 0 ≤ IntKind.i64.wrap (s7 - (1 : Int)) ∧ IntKind.i64.wrap (s7 - (1 : Int)) < ((r0.length : Nat) : Int) then (if 0 ≤ s7 ∧ s7 < ((r0.length : Nat) : Int) then (if 0 ≤ s7 ∧ s7 < ((r0.length : Nat) : Int) then (if 0 ≤ IntKind.i64.wrap (s7 - (1 : Int)) ∧ IntKind.i64.wrap (s7 - (1 : Int)) < (((r0.set s7.toNat (r0.getD ((IntKind.i64.wrap (s7 - (1 : Int))).toNat) (0 : Int))).length : Nat) : Int) then (slices_insertionSortOrdered_L1 n s1 s2 s6 (IntKind.i64.wrap (s7 - (1 : Int))) ((r0.set s7.toNat (r0.getD ((IntKind.i64.wrap (s7 - (1 : Int))).toNat) (0 : Int))).set ((IntKind.i64.wrap (s7 - (1 : Int))).toNat) (r0.getD s7.toNat (0 : Int)))) else none) else none) else none) else none)
  (slices_insertionSortOrdered_L0 n s1 s2 (IntKind.i64.wrap (s6 + (1 : Int))) r0) := by kernel_rfl
noncomputable def slices_insertionSortOrdered_sp : FnSpec TT := ⟨[.io 3 (.int .i64), .val (.int .i64), .val (.int .i64)], [], fun x => slices_insertionSortOrdered BIG x.1 x.2.1 x.2.2⟩
theorem slices_insertionSortOrdered_ok : FnOk TT Try.prog 53 slices_insertionSortOrdered_sp := fnOk_of (C := slices_insertionSortOrdered_C) (by kernel_rfl) slices_insertionSortOrdered_env Try.func53 (show Try.f53.body = some (bodyOf Try.f53) by kernel_rfl) (by kernel_rfl) (by kernel_rfl) (cuts := slices_insertionSortOrdered_cuts) fun x y h => ⟨BIG, h⟩
noncomputable def slices_pdqsortOrdered_C : Ctx TT := ⟨tyOf, [(53, slices_insertionSortOrdered_sp.toCall)], 1, [], layOf⟩
theorem slices_pdqsortOrdered_env : EnvOk TT Try.prog slices_pdqsortOrdered_C.E := envG (fnCall_ok slices_insertionSortOrdered_ok) (envNil)
def slices_pdqsortOrdered_cuts : List (Pos × Cut) := [([false, true, true], ⟨[0, 1, 2, 3, 8, 9], [], false, []⟩), ([true, true, true, false, false, false, true, true], ⟨[0, 1, 2, 3, 8, 9, 10], [], false, []⟩)]
noncomputable def slices_pdqsortOrdered (n : Nat) (x0 : List Int) (x1 : Int) (x2 : Int) (x3 : Int) : Option (List Int × Unit) := topF TT Try.prog slices_pdqsortOrdered_C slices_pdqsortOrdered_cuts Try.f42 (bodyOf Try.f42) ⟨[], []⟩ [.io 3 (.int .i64), .val (.int .i64), .val (.int .i64), .val (.int .i64)] [] n (x0, x1, x2, x3)
noncomputable def slices_pdqsortOrdered_L0 (n : Nat) (s1 : Int) (s2 : Int) (s3 : Int) (s8 : Bool) (s9 : Bool) (r0 : List Int) : Option (List Int × Unit) := cutF TT Try.prog slices_pdqsortOrdered_C slices_pdqsortOrdered_cuts Try.f42 (bodyOf Try.f42) ⟨[], []⟩ [.io 3 (.int .i64), .val (.int .i64), .val (.int .i64), .val (.int .i64)] [] n [false, true, true] ⟨[(0, .own 0), (1, .cell ⟨.int .i64, s1⟩), (2, .cell ⟨.int .i64, s2⟩), (3, .cell ⟨.int .i64, s3⟩), (8, .cell ⟨.bool, s8⟩), (9, .cell ⟨.bool, s9⟩)], [.row 3 (.int .i64) r0]⟩
noncomputable def slices_pdqsortOrdered_J1 (n : Nat) (s1 : Int) (s2 : Int) (s3 : Int) (s8 : Bool) (s9 : Bool) (s10 : Int) (r0 : List Int) : Option (List Int × Unit) := cutF TT Try.prog slices_pdqsortOrdered_C slices_pdqsortOrdered_cuts Try.f42 (bodyOf Try.f42) ⟨[], []⟩ [.io 3 (.int .i64), .val (.int .i64), .val (.int .i64), .val (.int .i64)] [] n [true, true, true, false, false, false, true, true] ⟨[(0, .own 0), (1, .cell ⟨.int .i64, s1⟩), (2, .cell ⟨.int .i64, s2⟩), (3, .cell ⟨.int .i64, s3⟩), (8, .cell ⟨.bool, s8⟩), (9, .cell ⟨.bool, s9⟩), (10, .cell ⟨.int .i64, s10⟩)], [.row 3 (.int .i64) r0]⟩
theorem slices_pdqsortOrdered_eq (n : Nat) (x0 : List Int) (x1 : Int) (x2 : Int) (x3 : Int) : slices_pdqsortOrdered n x0 x1 x2 x3 =
  slices_pdqsortOrdered_L0 n x1 x2 x3 true true x0 := by kernel_rfl
theorem slices_pdqsortOrdered_L0_eq (n : Nat) (s1 : Int) (s2 : Int) (s3 : Int) (s8 : Bool) (s9 : Bool) (r0 : List Int) : slices_pdqsortOrdered_L0 (n + 1) s1 s2 s3 s8 s9 r0 =
  forkB (decide ((IntKind.i64.wrap (s2 - s1)) ≤ (12 : Int)))
  (obind (slices_insertionSortOrdered BIG r0 s1 s2) fun y1 =>
   some (y1.1, ()))
  (forkB (s3 == (0 : Int))
   (none)
   (forkB (!s8)
    (none)
    (slices_pdqsortOrdered_J1 n s1 s2 s3 s8 s9 (IntKind.i64.wrap (s2 - s1)) r0))) := by kernel_rfl
theorem slices_pdqsortOrdered_J1_eq (n : Nat) (s1 : Int) (s2 : Int) (s3 : Int) (s8 : Bool) (s9 : Bool) (s10 : Int) (r0 : List Int) : slices_pdqsortOrdered_J1 (n + 1) s1 s2 s3 s8 s9 s10 r0 =
  none := by kernel_rfl
noncomputable def slices_pdqsortOrdered_sp : FnSpec TT := ⟨[.io 3 (.int .i64), .val (.int .i64), .val (.int .i64), .val (.int .i64)], [], fun x => slices_pdqsortOrdered BIG x.1 x.2.1 x.2.2.1 x.2.2.2⟩
theorem slices_pdqsortOrdered_ok : FnOk TT Try.prog 42 slices_pdqsortOrdered_sp := fnOk_of (C := slices_pdqsortOrdered_C) (by kernel_rfl) slices_pdqsortOrdered_env Try.func42 (show Try.f42.body = some (bodyOf Try.f42) by kernel_rfl) (by kernel_rfl) (by kernel_rfl) (cuts := slices_pdqsortOrdered_cuts) fun x y h => ⟨BIG, h⟩
noncomputable def slicesSort_C : Ctx TT := ⟨tyOf, [(43, bitsLen_sp.toCall), (42, slices_pdqsortOrdered_sp.toCall)], 1, [], layOf⟩
theorem slicesSort_env : EnvOk TT Try.prog slicesSort_C.E := envG (fnCall_ok bitsLen_ok) (envG (fnCall_ok slices_pdqsortOrdered_ok) (envNil))
def slicesSort_cuts : List (Pos × Cut) := []
noncomputable def slicesSort (n : Nat) (x0 : List Int) : Option (List Int × Unit) := topF TT Try.prog slicesSort_C slicesSort_cuts Try.f31 (bodyOf Try.f31) ⟨[], []⟩ [.io 3 (.int .i64)] [] n x0
theorem slicesSort_eq (n : Nat) (x0 : List Int) : slicesSort n x0 =
  obind (bitsLen BIG (IntKind.u64.wrap ((x0.length : Nat) : Int))) fun y1 =>
  obind (slices_pdqsortOrdered BIG x0 (0 : Int) ((x0.length : Nat) : Int) y1) fun y2 =>
  some (y2.1, ()) := by kernel_rfl
noncomputable def slicesSort_sp : FnSpec TT := ⟨[.io 3 (.int .i64)], [], fun x => slicesSort BIG x⟩
theorem slicesSort_ok : FnOk TT Try.prog 31 slicesSort_sp := fnOk_of (C := slicesSort_C) (by kernel_rfl) slicesSort_env Try.func31 (show Try.f31.body = some (bodyOf Try.f31) by kernel_rfl) (by kernel_rfl) (by kernel_rfl) (cuts := slicesSort_cuts) fun x y h => ⟨BIG, h⟩
noncomputable def slices_insertionSortOrdered_g1_C : Ctx TT := ⟨tyOf, [(59, cmpLess_sp.toCall)], 1, [(6, 1)], layOf⟩
theorem slices_insertionSortOrdered_g1_env : EnvOk TT Try.prog slices_insertionSortOrdered_g1_C.E := envG (fnCall_ok cmpLess_ok) (envNil)
def slices_insertionSortOrdered_g1_cuts : List (Pos × Cut) := [([false, true], ⟨[0, 1, 2, 6], [], false, []⟩), ([false, true, false, false, true, false, false, true], ⟨[0, 1, 2, 6, 7], [], false, []⟩), ([false, false, false, true, false, false, true, false, false, true], ⟨[0, 1, 2, 6, 7, 30], [], false, []⟩)]
noncomputable def slices_insertionSortOrdered_g1 (n : Nat) (x0 : List Int) (x1 : Nat) (x2 : Nat) (x3 : Int) (x4 : Int) : Option ((List Int × Unit) × (Unit)) := topG TT Try.prog slices_insertionSortOrdered_g1_C slices_insertionSortOrdered_g1_cuts Try.f53 (bodyOf Try.f53) ⟨[], [], [], [], []⟩ [.slr 3 (.int .i64), .val (.int .i64), .val (.int .i64)] [.row 3 (.int .i64)] [] n ((x0, x1, x2), x3, x4, ())
noncomputable def slices_insertionSortOrdered_g1_L0 (n : Nat) (s0o : Nat) (s0n : Nat) (s1 : Int) (s2 : Int) (s6 : Int) (r0 : List Int) : Option ((List Int × Unit) × (Unit)) := cutG TT Try.prog slices_insertionSortOrdered_g1_C slices_insertionSortOrdered_g1_cuts Try.f53 (bodyOf Try.f53) ⟨[], [], [], [], []⟩ [.row 3 (.int .i64)] [] n [false, true] ⟨[(0, .sl 0 1 s0o s0n), (1, .cell ⟨.int .i64, s1⟩), (2, .cell ⟨.int .i64, s2⟩), (6, .cell ⟨.int .i64, s6⟩)], [.row 3 (.int .i64) r0]⟩
noncomputable def slices_insertionSortOrdered_g1_L1 (n : Nat) (s0o : Nat) (s0n : Nat) (s1 : Int) (s2 : Int) (s6 : Int) (s7 : Int) (r0 : List Int) : Option ((List Int × Unit) × (Unit)) := cutG TT Try.prog slices_insertionSortOrdered_g1_C slices_insertionSortOrdered_g1_cuts Try.f53 (bodyOf Try.f53) ⟨[], [], [], [], []⟩ [.row 3 (.int .i64)] [] n [false, true, false, false, true, false, false, true] ⟨[(0, .sl 0 1 s0o s0n), (1, .cell ⟨.int .i64, s1⟩), (2, .cell ⟨.int .i64, s2⟩), (6, .cell ⟨.int .i64, s6⟩), (7, .cell ⟨.int .i64, s7⟩)], [.row 3 (.int .i64) r0]⟩
noncomputable def slices_insertionSortOrdered_g1_J2 (n : Nat) (s0o : Nat) (s0n : Nat) (s1 : Int) (s2 : Int) (s6 : Int) (s7 : Int) (s30 : Bool) (r0 : List Int) : Option ((List Int × Unit) × (Unit)) := cutG TT Try.prog slices_insertionSortOrdered_g1_C slices_insertionSortOrdered_g1_cuts Try.f53 (bodyOf Try.f53) ⟨[], [], [], [], []⟩ [.row 3 (.int .i64)] [] n [false, false, false, true, false, false, true, false, false, true] ⟨[(0, .sl 0 1 s0o s0n), (1, .cell ⟨.int .i64, s1⟩), (2, .cell ⟨.int .i64, s2⟩), (6, .cell ⟨.int .i64, s6⟩), (7, .cell ⟨.int .i64, s7⟩), (30, .cell ⟨.bool, s30⟩)], [.row 3 (.int .i64) r0]⟩
theorem slices_insertionSortOrdered_g1_eq (n : Nat) (x0 : List Int) (x1 : Nat) (x2 : Nat) (x3 : Int) (x4 : Int) : slices_insertionSortOrdered_g1 n x0 x1 x2 x3 x4 =
  slices_insertionSortOrdered_g1_L0 n x1 x2 x3 x4 (IntKind.i64.wrap (x3 + (1 : Int))) x0 := by kernel_rfl
theorem slices_insertionSortOrdered_g1_L0_eq (n : Nat) (s0o : Nat) (s0n : Nat) (s1 : Int) (s2 : Int) (s6 : Int) (r0 : List Int) : slices_insertionSortOrdered_g1_L0 (n + 1) s0o s0n s1 s2 s6 r0 =
  forkB (decide (s6 < s2))
  (slices_insertionSortOrdered_g1_L1 n s0o s0n s1 s2 s6 s6 r0)
  (some ((r0, ()), ())) := by kernel_rfl
theorem slices_insertionSortOrdered_g1_L1_eq (n : Nat) (s0o : Nat) (s0n : Nat) (s1 : Int) (s2 : Int) (s6 : Int) (s7 : Int) (r0 : List Int) : slices_insertionSortOrdered_g1_L1 (n + 1) s0o s0n s1 s2 s6 s7 r0 =
  forkB (decide (s7 > s1))
  (if 0 ≤ s7 ∧ s7 < ((s0n : Nat) : Int) then (if s0o + s7.toNat < r0.length then (if 0 ≤ IntKind.i64.wrap (s7 - (1 : Int)) ∧ IntKind.i64.wrap (s7 - (1 : Int)) < ((s0n : Nat) : Int) then (if s0o + ((IntKind.i64.wrap (s7 - (1 : Int))).toNat) < r0.length then (obind (cmpLess BIG (r0.getD (s0o + s7.toNat) (0 : Int)) (r0.getD (s0o + ((IntKind.i64.wrap (s7 - (1 : Int))).toNat)) (0 : Int))) fun y1 =>
   slices_insertionSortOrdered_g1_J2 n s0o s0n s1 s2 s6 s7 y1 r0) else none) else none) else none) else none)
  (slices_insertionSortOrdered_g1_J2 n s0o s0n s1 s2 s6 s7 false r0) := by kernel_rfl
theorem slices_insertionSortOrdered_g1_J2_eq (n : Nat) (s0o : Nat) (s0n : Nat) (s1 : Int) (s2 : Int) (s6 : Int) (s7 : Int) (s30 : Bool) (r0 : List Int) : slices_insertionSortOrdered_g1_J2 (n + 1) s0o s0n s1 s2 s6 s7 s30 r0 =
  forkB s30
  (if 0 ≤ IntKind.i64.wrap (s7 - (1 : Int)) ∧ IntKind.i64.wrap (s7 - (1 : Int)) < ((s0n : Nat) : Int) then (if s0o + ((IntKind.i64.wrap (s7 - (1 : Int))).toNat) < r0.length then (if 0 ≤ s7 ∧ s7 < ((s0n : Nat) : Int) then (if s0o + s7.toNat < r0.length then (if 0 ≤ s7 ∧ s7 < ((s0n : Nat) : Int) then (if s0o + s7.toNat < r0.length then (if 0 ≤ IntKind.i64.wrap (s7 - (1 : Int)) ∧ IntKind.i64.wrap (s7 - (1 : Int)) < ((s0n : Nat) : Int) then (if s0o + ((IntKind.i64.wrap (s7 - (1 : Int))).toNat) < (r0.set (s0o + s7.toNat) (r0.getD (s0o + ((IntKind.i64.wrap (s7 - (1 : Int))).toNat)) (0 : Int))).length then (slices_insertionSortOrdered_g1_L1 n s0o s0n s1 s2 s6 (IntKind.i64.wrap (s7 - (1 : Int))) ((r0.set (s0o + s7.toNat) (r0.getD (s0o + ((IntKind.i64.wrap (s7 - (1 : Int))).toNat)) (0 : Int))).set (s0o + ((IntKind.i64.wrap (s7 - (1 : Int))).toNat)) (r0.getD (s0o + s7.toNat) (0 : Int)))) else none) else none) else none) else none) else none) else none) else none) else none)
  (slices_insertionSortOrdered_g1_L0 n s0o s0n s1 s2 (IntKind.i64.wrap (s6 + (1 : Int))) r0) := by kernel_rfl
noncomputable def slices_insertionSortOrdered_g1_sp : GSpec TT := ⟨[.slr 3 (.int .i64), .val (.int .i64), .val (.int .i64)], [.row 3 (.int .i64)], [], fun x => slices_insertionSortOrdered_g1 BIG x.1.1 x.1.2.1 x.1.2.2 x.2.1 x.2.2.1⟩
theorem slices_insertionSortOrdered_g1_ok : GOk TT Try.prog 53 slices_insertionSortOrdered_g1_sp := gOk_of (C := slices_insertionSortOrdered_g1_C) (cuts := slices_insertionSortOrdered_g1_cuts) (by kernel_rfl) slices_insertionSortOrdered_g1_env Try.func53 (show Try.f53.body = some (bodyOf Try.f53) by kernel_rfl) (by kernel_rfl) (by kernel_rfl) (by kernel_rfl) fun x y h => ⟨BIG, h⟩
noncomputable def slices_pdqsortOrdered_g1_C : Ctx TT := ⟨tyOf, [(53, slices_insertionSortOrdered_g1_sp.toCall (slices_insertionSortOrdered_sp.toCall))], 1, [], layOf⟩
theorem slices_pdqsortOrdered_g1_env : EnvOk TT Try.prog slices_pdqsortOrdered_g1_C.E := envG (gCall_ok slices_insertionSortOrdered_g1_ok (fnCall_ok slices_insertionSortOrdered_ok)) (envNil)
def slices_pdqsortOrdered_g1_cuts : List (Pos × Cut) := [([false, true, true], ⟨[0, 1, 2, 3, 8, 9], [], false, []⟩), ([true, true, true, false, false, false, true, true], ⟨[0, 1, 2, 3, 8, 9, 10], [], false, []⟩)]
noncomputable def slices_pdqsortOrdered_g1 (n : Nat) (x0 : List Int) (x1 : Nat) (x2 : Nat) (x3 : Int) (x4 : Int) (x5 : Int) : Option ((List Int × Unit) × (Unit)) := topG TT Try.prog slices_pdqsortOrdered_g1_C slices_pdqsortOrdered_g1_cuts Try.f42 (bodyOf Try.f42) ⟨[], [], [], [], []⟩ [.slr 3 (.int .i64), .val (.int .i64), .val (.int .i64), .val (.int .i64)] [.row 3 (.int .i64)] [] n ((x0, x1, x2), x3, x4, x5, ())
noncomputable def slices_pdqsortOrdered_g1_L0 (n : Nat) (s0o : Nat) (s0n : Nat) (s1 : Int) (s2 : Int) (s3 : Int) (s8 : Bool) (s9 : Bool) (r0 : List Int) : Option ((List Int × Unit) × (Unit)) := cutG TT Try.prog slices_pdqsortOrdered_g1_C slices_pdqsortOrdered_g1_cuts Try.f42 (bodyOf Try.f42) ⟨[], [], [], [], []⟩ [.row 3 (.int .i64)] [] n [false, true, true] ⟨[(0, .sl 0 1 s0o s0n), (1, .cell ⟨.int .i64, s1⟩), (2, .cell ⟨.int .i64, s2⟩), (3, .cell ⟨.int .i64, s3⟩), (8, .cell ⟨.bool, s8⟩), (9, .cell ⟨.bool, s9⟩)], [.row 3 (.int .i64) r0]⟩
noncomputable def slices_pdqsortOrdered_g1_J1 (n : Nat) (s0o : Nat) (s0n : Nat) (s1 : Int) (s2 : Int) (s3 : Int) (s8 : Bool) (s9 : Bool) (s10 : Int) (r0 : List Int) : Option ((List Int × Unit) × (Unit)) := cutG TT Try.prog slices_pdqsortOrdered_g1_C slices_pdqsortOrdered_g1_cuts Try.f42 (bodyOf Try.f42) ⟨[], [], [], [], []⟩ [.row 3 (.int .i64)] [] n [true, true, true, false, false, false, true, true] ⟨[(0, .sl 0 1 s0o s0n), (1, .cell ⟨.int .i64, s1⟩), (2, .cell ⟨.int .i64, s2⟩), (3, .cell ⟨.int .i64, s3⟩), (8, .cell ⟨.bool, s8⟩), (9, .cell ⟨.bool, s9⟩), (10, .cell ⟨.int .i64, s10⟩)], [.row 3 (.int .i64) r0]⟩
theorem slices_pdqsortOrdered_g1_eq (n : Nat) (x0 : List Int) (x1 : Nat) (x2 : Nat) (x3 : Int) (x4 : Int) (x5 : Int) : slices_pdqsortOrdered_g1 n x0 x1 x2 x3 x4 x5 =
  slices_pdqsortOrdered_g1_L0 n x1 x2 x3 x4 x5 true true x0 := by kernel_rfl
theorem slices_pdqsortOrdered_g1_L0_eq (n : Nat) (s0o : Nat) (s0n : Nat) (s1 : Int) (s2 : Int) (s3 : Int) (s8 : Bool) (s9 : Bool) (r0 : List Int) : slices_pdqsortOrdered_g1_L0 (n + 1) s0o s0n s1 s2 s3 s8 s9 r0 =
  forkB (decide ((IntKind.i64.wrap (s2 - s1)) ≤ (12 : Int)))
  (obind (slices_insertionSortOrdered_g1 BIG r0 s0o s0n s1 s2) fun y1 =>
   some ((y1.1.1, ()), ()))
  (forkB (s3 == (0 : Int))
   (none)
   (forkB (!s8)
    (none)
    (slices_pdqsortOrdered_g1_J1 n s0o s0n s1 s2 s3 s8 s9 (IntKind.i64.wrap (s2 - s1)) r0))) := by kernel_rfl
theorem slices_pdqsortOrdered_g1_J1_eq (n : Nat) (s0o : Nat) (s0n : Nat) (s1 : Int) (s2 : Int) (s3 : Int) (s8 : Bool) (s9 : Bool) (s10 : Int) (r0 : List Int) : slices_pdqsortOrdered_g1_J1 (n + 1) s0o s0n s1 s2 s3 s8 s9 s10 r0 =
  none := by kernel_rfl
noncomputable def slices_pdqsortOrdered_g1_sp : GSpec TT := ⟨[.slr 3 (.int .i64), .val (.int .i64), .val (.int .i64), .val (.int .i64)], [.row 3 (.int .i64)], [], fun x => slices_pdqsortOrdered_g1 BIG x.1.1 x.1.2.1 x.1.2.2 x.2.1 x.2.2.1 x.2.2.2.1⟩
theorem slices_pdqsortOrdered_g1_ok : GOk TT Try.prog 42 slices_pdqsortOrdered_g1_sp := gOk_of (C := slices_pdqsortOrdered_g1_C) (cuts := slices_pdqsortOrdered_g1_cuts) (by kernel_rfl) slices_pdqsortOrdered_g1_env Try.func42 (show Try.f42.body = some (bodyOf Try.f42) by kernel_rfl) (by kernel_rfl) (by kernel_rfl) (by kernel_rfl) fun x y h => ⟨BIG, h⟩
noncomputable def slicesSort_g1_C : Ctx TT := ⟨tyOf, [(43, bitsLen_sp.toCall), (42, slices_pdqsortOrdered_g1_sp.toCall (slices_pdqsortOrdered_sp.toCall))], 1, [], layOf⟩
theorem slicesSort_g1_env : EnvOk TT Try.prog slicesSort_g1_C.E := envG (fnCall_ok bitsLen_ok) (envG (gCall_ok slices_pdqsortOrdered_g1_ok (fnCall_ok slices_pdqsortOrdered_ok)) (envNil))
def slicesSort_g1_cuts : List (Pos × Cut) := []
noncomputable def slicesSort_g1 (n : Nat) (x0 : List Int) (x1 : Nat) (x2 : Nat) : Option ((List Int × Unit) × (Unit)) := topG TT Try.prog slicesSort_g1_C slicesSort_g1_cuts Try.f31 (bodyOf Try.f31) ⟨[], [], [], [], []⟩ [.slr 3 (.int .i64)] [.row 3 (.int .i64)] [] n ((x0, x1, x2), ())
theorem slicesSort_g1_eq (n : Nat) (x0 : List Int) (x1 : Nat) (x2 : Nat) : slicesSort_g1 n x0 x1 x2 =
  obind (bitsLen BIG (IntKind.u64.wrap ((x2 : Nat) : Int))) fun y1 =>
  obind (slices_pdqsortOrdered_g1 BIG x0 x1 x2 (0 : Int) ((x2 : Nat) : Int) y1) fun y2 =>
  some ((y2.1.1, ()), ()) := by kernel_rfl
noncomputable def slicesSort_g1_sp : GSpec TT := ⟨[.slr 3 (.int .i64)], [.row 3 (.int .i64)], [], fun x => slicesSort_g1 BIG x.1.1 x.1.2.1 x.1.2.2⟩
theorem slicesSort_g1_ok : GOk TT Try.prog 31 slicesSort_g1_sp := gOk_of (C := slicesSort_g1_C) (cuts := slicesSort_g1_cuts) (by kernel_rfl) slicesSort_g1_env Try.func31 (show Try.f31.body = some (bodyOf Try.f31) by kernel_rfl) (by kernel_rfl) (by kernel_rfl) (by kernel_rfl) fun x y h => ⟨BIG, h⟩
noncomputable def slicesCompact_g1_C : Ctx TT := ⟨tyOf, [], 1, [], layOf⟩
theorem slicesCompact_g1_env : EnvOk TT Try.prog slicesCompact_g1_C.E := envNil
def slicesCompact_g1_cuts : List (Pos × Cut) := [([false, true, false, true, true], ⟨[0, 3], [], false, []⟩), ([false, true, false, true, false, true, false, false, true, false, false, true, false, true, true], ⟨[0, 3, 4, 5], [], false, []⟩), ([true, false, false, true, false, true, false, true, false, false, true, false, false, true, false, true, true], ⟨[0, 3, 4, 5], [], false, []⟩)]
noncomputable def slicesCompact_g1 (n : Nat) (x0 : List Int) (x1 : Nat) (x2 : Nat) : Option ((List Int × Unit) × ((Nat × Nat) × Unit)) := topG TT Try.prog slicesCompact_g1_C slicesCompact_g1_cuts Try.f32 (bodyOf Try.f32) ⟨[], [], [], [], []⟩ [.slr 3 (.int .i64)] [.row 3 (.int .i64)] [.part 0 1] n ((x0, x1, x2), ())
noncomputable def slicesCompact_g1_L0 (n : Nat) (s0o : Nat) (s0n : Nat) (s3 : Int) (r0 : List Int) : Option ((List Int × Unit) × ((Nat × Nat) × Unit)) := cutG TT Try.prog slicesCompact_g1_C slicesCompact_g1_cuts Try.f32 (bodyOf Try.f32) ⟨[], [], [], [], []⟩ [.row 3 (.int .i64)] [.part 0 1] n [false, true, false, true, true] ⟨[(0, .sl 0 1 s0o s0n), (3, .cell ⟨.int .i64, s3⟩)], [.row 3 (.int .i64) r0]⟩
noncomputable def slicesCompact_g1_L1 (n : Nat) (s0o : Nat) (s0n : Nat) (s3 : Int) (s4o : Nat) (s4n : Nat) (s5 : Int) (r0 : List Int) : Option ((List Int × Unit) × ((Nat × Nat) × Unit)) := cutG TT Try.prog slicesCompact_g1_C slicesCompact_g1_cuts Try.f32 (bodyOf Try.f32) ⟨[], [], [], [], []⟩ [.row 3 (.int .i64)] [.part 0 1] n [false, true, false, true, false, true, false, false, true, false, false, true, false, true, true] ⟨[(0, .sl 0 1 s0o s0n), (3, .cell ⟨.int .i64, s3⟩), (4, .sl 0 1 s4o s4n), (5, .cell ⟨.int .i64, s5⟩)], [.row 3 (.int .i64) r0]⟩
noncomputable def slicesCompact_g1_J2 (n : Nat) (s0o : Nat) (s0n : Nat) (s3 : Int) (s4o : Nat) (s4n : Nat) (s5 : Int) (r0 : List Int) : Option ((List Int × Unit) × ((Nat × Nat) × Unit)) := cutG TT Try.prog slicesCompact_g1_C slicesCompact_g1_cuts Try.f32 (bodyOf Try.f32) ⟨[], [], [], [], []⟩ [.row 3 (.int .i64)] [.part 0 1] n [true, false, false, true, false, true, false, true, false, false, true, false, false, true, false, true, true] ⟨[(0, .sl 0 1 s0o s0n), (3, .cell ⟨.int .i64, s3⟩), (4, .sl 0 1 s4o s4n), (5, .cell ⟨.int .i64, s5⟩)], [.row 3 (.int .i64) r0]⟩
theorem slicesCompact_g1_eq (n : Nat) (x0 : List Int) (x1 : Nat) (x2 : Nat) : slicesCompact_g1 n x0 x1 x2 =
  forkB (decide (((x2 : Nat) : Int) < (2 : Int)))
  (some ((x0, ()), ((x1, x2), ())))
  (slicesCompact_g1_L0 n x1 x2 (1 : Int) x0) := by kernel_rfl
theorem slicesCompact_g1_L0_eq (n : Nat) (s0o : Nat) (s0n : Nat) (s3 : Int) (r0 : List Int) : slicesCompact_g1_L0 (n + 1) s0o s0n s3 r0 =
  forkB (decide (s3 < ((s0n : Nat) : Int)))
  (if 0 ≤ s3 ∧ s3 < ((s0n : Nat) : Int) then (if s0o + s3.toNat < r0.length then (if 0 ≤ IntKind.i64.wrap (s3 - (1 : Int)) ∧ IntKind.i64.wrap (s3 - (1 : Int)) < ((s0n : Nat) : Int) then (if s0o + ((IntKind.i64.wrap (s3 - (1 : Int))).toNat) < r0.length then (forkB ((r0.getD (s0o + s3.toNat) (0 : Int)) == (r0.getD (s0o + ((IntKind.i64.wrap (s3 - (1 : Int))).toNat)) (0 : Int)))
   (if 0 ≤ s3 ∧ s3 ≤ ((s0n : Nat) : Int) ∧ (((s0n : Nat) : Int) ≤ ((s0n : Nat) : Int) ∨ (((s0o : Nat) : Int) + ((s0n : Nat) : Int) ≤ ((r0.length : Nat) : Int) ∧ (s0o = 0 ∨ 0 < s0n))) then (slicesCompact_g1_L1 n s0o s0n s3 (s0o + s3.toNat) ((((s0n : Nat) : Int).toNat) - s3.toNat) (1 : Int) r0) else none)
   (slicesCompact_g1_L0 n s0o s0n (IntKind.i64.wrap (s3 + (1 : Int))) r0)) else none) else none) else none) else none)
  (some ((r0, ()), ((s0o, s0n), ()))) := by kernel_rfl
theorem slicesCompact_g1_L1_eq (n : Nat) (s0o : Nat) (s0n : Nat) (s3 : Int) (s4o : Nat) (s4n : Nat) (s5 : Int) (r0 : List Int) : slicesCompact_g1_L1 (n + 1) s0o s0n s3 s4o s4n s5 r0 =
  forkB (decide (s5 < ((s4n : Nat) : Int)))
  (if 0 ≤ s5 ∧ s5 < ((s4n : Nat) : Int) then (if s4o + s5.toNat < r0.length then (if 0 ≤ IntKind.i64.wrap (s5 - (1 : Int)) ∧ IntKind.i64.wrap (s5 - (1 : Int)) < ((s4n : Nat) : Int) then (if s4o + ((IntKind.i64.wrap (s5 - (1 : Int))).toNat) < r0.length then (forkB ((r0.getD (s4o + s5.toNat) (0 : Int)) != (r0.getD (s4o + ((IntKind.i64.wrap (s5 - (1 : Int))).toNat)) (0 : Int)))
   (if 0 ≤ s5 ∧ s5 < ((s4n : Nat) : Int) then (if s4o + s5.toNat < r0.length then (if 0 ≤ s3 ∧ s3 < ((s0n : Nat) : Int) then (if s0o + s3.toNat < r0.length then (slicesCompact_g1_J2 n s0o s0n (IntKind.i64.wrap (s3 + (1 : Int))) s4o s4n s5 (r0.set (s0o + s3.toNat) (r0.getD (s4o + s5.toNat) (0 : Int)))) else none) else none) else none) else none)
   (slicesCompact_g1_J2 n s0o s0n s3 s4o s4n s5 r0)) else none) else none) else none) else none)
  (if 0 ≤ s3 ∧ s3 ≤ ((s0n : Nat) : Int) ∧ (((s0n : Nat) : Int) ≤ ((s0n : Nat) : Int) ∨ (((s0o : Nat) : Int) + ((s0n : Nat) : Int) ≤ ((r0.length : Nat) : Int) ∧ (s0o = 0 ∨ 0 < s0n))) then (if (s0o + s3.toNat) + ((((s0n : Nat) : Int).toNat) - s3.toNat) ≤ r0.length then (if 0 ≤ (0 : Int) ∧ (0 : Int) ≤ s3 ∧ (s3 ≤ ((s0n : Nat) : Int) ∨ (((s0o : Nat) : Int) + s3 ≤ (((List.take (s0o + s3.toNat) r0 ++ (List.replicate ((((s0n : Nat) : Int).toNat) - s3.toNat) (0 : Int) ++ List.drop ((s0o + s3.toNat) + ((((s0n : Nat) : Int).toNat) - s3.toNat)) r0)).length : Nat) : Int) ∧ (s0o = 0 ∨ 0 < s0n))) then (some ((List.take (s0o + s3.toNat) r0 ++ (List.replicate ((((s0n : Nat) : Int).toNat) - s3.toNat) (0 : Int) ++ List.drop ((s0o + s3.toNat) + ((((s0n : Nat) : Int).toNat) - s3.toNat)) r0), ()), ((s0o + 0, s3.toNat - 0), ()))) else none) else none) else none) := by kernel_rfl
theorem slicesCompact_g1_J2_eq (n : Nat) (s0o : Nat) (s0n : Nat) (s3 : Int) (s4o : Nat) (s4n : Nat) (s5 : Int) (r0 : List Int) : slicesCompact_g1_J2 (n + 1) s0o s0n s3 s4o s4n s5 r0 =
  slicesCompact_g1_L1 n s0o s0n s3 s4o s4n (IntKind.i64.wrap (s5 + (1 : Int))) r0 := by kernel_rfl
noncomputable def slicesCompact_g1_sp : GSpec TT := ⟨[.slr 3 (.int .i64)], [.row 3 (.int .i64)], [.part 0 1], fun x => slicesCompact_g1 BIG x.1.1 x.1.2.1 x.1.2.2⟩
theorem slicesCompact_g1_ok : GOk TT Try.prog 32 slicesCompact_g1_sp := gOk_of (C := slicesCompact_g1_C) (cuts := slicesCompact_g1_cuts) (by kernel_rfl) slicesCompact_g1_env Try.func32 (show Try.f32.body = some (bodyOf Try.f32) by kernel_rfl) (by kernel_rfl) (by kernel_rfl) (by kernel_rfl) fun x y h => ⟨BIG, h⟩
noncomputable def slicesCompact_g2_C : Ctx TT := ⟨tyOf, [], 1, [], layOf⟩
theorem slicesCompact_g2_env : EnvOk TT Try.prog slicesCompact_g2_C.E := envNil
def slicesCompact_g2_cuts : List (Pos × Cut) := [([false, true, false, true, true], ⟨[0, 3], [], false, []⟩), ([false, true, false, true, false, true, false, false, true, false, false, true, false, true, true], ⟨[0, 3, 4, 5], [], false, []⟩), ([true, false, false, true, false, true, false, true, false, false, true, false, false, true, false, true, true], ⟨[0, 3, 4, 5], [], false, []⟩)]
noncomputable def slicesCompact_g2 (n : Nat) (x0 : List Int) : Option ((List Int × Unit) × ((Nat × Nat) × Unit)) := topG TT Try.prog slicesCompact_g2_C slicesCompact_g2_cuts Try.f32 (bodyOf Try.f32) ⟨[], [0], [], [], []⟩ [.row 3 (.int .i64)] [.row 3 (.int .i64)] [.part 0 1] n (x0, ())
noncomputable def slicesCompact_g2_L0 (n : Nat) (s3 : Int) (r0 : List Int) : Option ((List Int × Unit) × ((Nat × Nat) × Unit)) := cutG TT Try.prog slicesCompact_g2_C slicesCompact_g2_cuts Try.f32 (bodyOf Try.f32) ⟨[], [0], [], [], []⟩ [.row 3 (.int .i64)] [.part 0 1] n [false, true, false, true, true] ⟨[(0, .own 0), (3, .cell ⟨.int .i64, s3⟩)], [.row 3 (.int .i64) r0]⟩
noncomputable def slicesCompact_g2_L1 (n : Nat) (s3 : Int) (s4o : Nat) (s4n : Nat) (s5 : Int) (r0 : List Int) : Option ((List Int × Unit) × ((Nat × Nat) × Unit)) := cutG TT Try.prog slicesCompact_g2_C slicesCompact_g2_cuts Try.f32 (bodyOf Try.f32) ⟨[], [0], [], [], []⟩ [.row 3 (.int .i64)] [.part 0 1] n [false, true, false, true, false, true, false, false, true, false, false, true, false, true, true] ⟨[(0, .own 0), (3, .cell ⟨.int .i64, s3⟩), (4, .sl 0 1 s4o s4n), (5, .cell ⟨.int .i64, s5⟩)], [.row 3 (.int .i64) r0]⟩
noncomputable def slicesCompact_g2_J2 (n : Nat) (s3 : Int) (s4o : Nat) (s4n : Nat) (s5 : Int) (r0 : List Int) : Option ((List Int × Unit) × ((Nat × Nat) × Unit)) := cutG TT Try.prog slicesCompact_g2_C slicesCompact_g2_cuts Try.f32 (bodyOf Try.f32) ⟨[], [0], [], [], []⟩ [.row 3 (.int .i64)] [.part 0 1] n [true, false, false, true, false, true, false, true, false, false, true, false, false, true, false, true, true] ⟨[(0, .own 0), (3, .cell ⟨.int .i64, s3⟩), (4, .sl 0 1 s4o s4n), (5, .cell ⟨.int .i64, s5⟩)], [.row 3 (.int .i64) r0]⟩
theorem slicesCompact_g2_eq (n : Nat) (x0 : List Int) : slicesCompact_g2 n x0 =
  forkB (decide (((x0.length : Nat) : Int) < (2 : Int)))
  (some ((x0, ()), ((0, x0.length), ())))
  (slicesCompact_g2_L0 n (1 : Int) x0) := by kernel_rfl
theorem slicesCompact_g2_L0_eq (n : Nat) (s3 : Int) (r0 : List Int) : slicesCompact_g2_L0 (n + 1) s3 r0 =
  forkB (decide (s3 < ((r0.length : Nat) : Int)))
  (if 0 ≤ s3 ∧ s3 < ((r0.length : Nat) : Int) then (if 0 ≤ IntKind.i64.wrap (s3 - (1 : Int)) ∧ IntKind.i64.wrap (s3 - (1 : Int)) < ((r0.length : Nat) : Int) then (forkB ((r0.getD s3.toNat (0 : Int)) == (r0.getD ((IntKind.i64.wrap (s3 - (1 : Int))).toNat) (0 : Int)))
   (if 0 ≤ s3 ∧ s3 ≤ ((r0.length : Nat) : Int) ∧ ((r0.length : Nat) : Int) ≤ ((r0.length : Nat) : Int) then (slicesCompact_g2_L1 n s3 s3.toNat ((((r0.length : Nat) : Int).toNat) - s3.toNat) (1 : Int) r0) else none)
   (slicesCompact_g2_L0 n (IntKind.i64.wrap (s3 + (1 : Int))) r0)) else none) else none)
  (some ((r0, ()), ((0, r0.length), ()))) := by kernel_rfl
theorem slicesCompact_g2_L1_eq (n : Nat) (s3 : Int) (s4o : Nat) (s4n : Nat) (s5 : Int) (r0 : List Int) : slicesCompact_g2_L1 (n + 1) s3 s4o s4n s5 r0 =
  forkB (decide (s5 < ((s4n : Nat) : Int)))
  (if 0 ≤ s5 ∧ s5 < ((s4n : Nat) : Int) then (if s4o + s5.toNat < r0.length then (if 0 ≤ IntKind.i64.wrap (s5 - (1 : Int)) ∧ IntKind.i64.wrap (s5 - (1 : Int)) < ((s4n : Nat) : Int) then (if s4o + ((IntKind.i64.wrap (s5 - (1 : Int))).toNat) < r0.length then (forkB ((r0.getD (s4o + s5.toNat) (0 : Int)) != (r0.getD (s4o + ((IntKind.i64.wrap (s5 - (1 : Int))).toNat)) (0 : Int)))
   (if 0 ≤ s5 ∧ s5 < ((s4n : Nat) : Int) then (if s4o + s5.toNat < r0.length then (if 0 ≤ s3 ∧ s3 < ((r0.length : Nat) : Int) then (slicesCompact_g2_J2 n (IntKind.i64.wrap (s3 + (1 : Int))) s4o s4n s5 (r0.set s3.toNat (r0.getD (s4o + s5.toNat) (0 : Int)))) else none) else none) else none)
   (slicesCompact_g2_J2 n s3 s4o s4n s5 r0)) else none) else none) else none) else none)
  (if 0 ≤ s3 ∧ s3 ≤ ((r0.length : Nat) : Int) ∧ ((r0.length : Nat) : Int) ≤ ((r0.length : Nat) : Int) then (if s3.toNat + ((((r0.length : Nat) : Int).toNat) - s3.toNat) ≤ r0.length then (if 0 ≤ (0 : Int) ∧ (0 : Int) ≤ s3 ∧ s3 ≤ (((List.take s3.toNat r0 ++ (List.replicate ((((r0.length : Nat) : Int).toNat) - s3.toNat) (0 : Int) ++ List.drop (s3.toNat + ((((r0.length : Nat) : Int).toNat) - s3.toNat)) r0)).length : Nat) : Int) then (some ((List.take s3.toNat r0 ++ (List.replicate ((((r0.length : Nat) : Int).toNat) - s3.toNat) (0 : Int) ++ List.drop (s3.toNat + ((((r0.length : Nat) : Int).toNat) - s3.toNat)) r0), ()), ((0, s3.toNat - 0), ()))) else none) else none) else none) := by kernel_rfl
theorem slicesCompact_g2_J2_eq (n : Nat) (s3 : Int) (s4o : Nat) (s4n : Nat) (s5 : Int) (r0 : List Int) : slicesCompact_g2_J2 (n + 1) s3 s4o s4n s5 r0 =
  slicesCompact_g2_L1 n s3 s4o s4n (IntKind.i64.wrap (s5 + (1 : Int))) r0 := by kernel_rfl
noncomputable def slicesCompact_g2_sp : GSpec TT := ⟨[.row 3 (.int .i64)], [.row 3 (.int .i64)], [.part 0 1], fun x => slicesCompact_g2 BIG x.1⟩
theorem slicesCompact_g2_ok : GOk TT Try.prog 32 slicesCompact_g2_sp := gOk_of (C := slicesCompact_g2_C) (cuts := slicesCompact_g2_cuts) (by kernel_rfl) slicesCompact_g2_env Try.func32 (show Try.f32.body = some (bodyOf Try.f32) by kernel_rfl) (by kernel_rfl) (by kernel_rfl) (by kernel_rfl) fun x y h => ⟨BIG, h⟩
noncomputable def insNext_g1_C : Ctx TT := ⟨tyOf, [(14, insRight_sp.toCall), (16, insJumps_sp.toCall), (31, slicesSort_g1_sp.toCall (slicesSort_sp.toCall)), (32, slicesCompact_g2_sp.toCall (slicesCompact_g1_sp.toCall (noCall TT)))], 0, [], layOf⟩
theorem insNext_g1_env : EnvOk TT Try.prog insNext_g1_C.E := envG (fnCall_ok insRight_ok) (envG (fnCall_ok insJumps_ok) (envG (gCall_ok slicesSort_g1_ok (fnCall_ok slicesSort_ok)) (envG (gCall_ok slicesCompact_g2_ok (gCall_ok slicesCompact_g1_ok (noCall_ok 32))) (envNil))))
def insNext_g1_cuts : List (Pos × Cut) := [([false, true], ⟨[0, 1, 29], [], false, []⟩), ([true, true, true], ⟨[0, 1, 5], [], false, []⟩)]
noncomputable def insNext_g1 (n : Nat) (x0 : List Ins) (x1 : Int) : Option ((Unit) × ((List Int × Nat × Nat) × Unit)) := topG TT Try.prog insNext_g1_C insNext_g1_cuts Try.f19 (bodyOf Try.f19) ⟨[(0, 3, .int .i64, false)], [], [], [], []⟩ [.val (.list (.user 0)), .val (.int .i64)] [] [.slr 3 (.int .i64)] n (x0, x1, ())
noncomputable def insNext_g1_J0 (n : Nat) (s0 : List Ins) (s1 : Int) (s29 : Bool) : Option ((Unit) × ((List Int × Nat × Nat) × Unit)) := cutG TT Try.prog insNext_g1_C insNext_g1_cuts Try.f19 (bodyOf Try.f19) ⟨[(0, 3, .int .i64, false)], [], [], [], []⟩ [] [.slr 3 (.int .i64)] n [false, true] ⟨[(0, .cell ⟨.list (.user 0), s0⟩), (1, .cell ⟨.int .i64, s1⟩), (29, .cell ⟨.bool, s29⟩)], []⟩
noncomputable def insNext_g1_J1 (n : Nat) (s0 : List Ins) (s1 : Int) (r0 : List Int) : Option ((Unit) × ((List Int × Nat × Nat) × Unit)) := cutG TT Try.prog insNext_g1_C insNext_g1_cuts Try.f19 (bodyOf Try.f19) ⟨[(0, 3, .int .i64, false)], [], [], [], []⟩ [] [.slr 3 (.int .i64)] n [true, true, true] ⟨[(0, .cell ⟨.list (.user 0), s0⟩), (1, .cell ⟨.int .i64, s1⟩), (5, .own 0)], [.row 3 (.int .i64) r0]⟩
theorem insNext_g1_eq (n : Nat) (x0 : List Ins) (x1 : Int) : insNext_g1 n x0 x1 =
  forkB (decide (x1 < (0 : Int)))
  (insNext_g1_J0 n x0 x1 true)
  (forkB (decide (x1 ≥ ((x0.length : Nat) : Int)))
   (insNext_g1_J0 n x0 x1 true)
   (if 0 ≤ x1 ∧ x1 < ((x0.length : Nat) : Int) then (obind (insRight BIG (x0.getD x1.toNat dIns)) fun y1 =>
    forkB (!y1)
    (insNext_g1_J0 n x0 x1 true)
    (if 0 ≤ x1 ∧ x1 < ((x0.length : Nat) : Int) then (insNext_g1_J0 n x0 x1 (((x0.getD x1.toNat dIns).Op) == (28 : Int))) else none)) else none)) := by kernel_rfl
theorem insNext_g1_J0_eq (n : Nat) (s0 : List Ins) (s1 : Int) (s29 : Bool) : insNext_g1_J0 (n + 1) s0 s1 s29 =
  forkB s29
  (some ((), ((([] : List Int), 0, 0), ())))
  (if 0 ≤ s1 ∧ s1 < ((s0.length : Nat) : Int) then (obind (insJumps BIG (s0.getD s1.toNat dIns)) fun y1 =>
   forkB y1
   (if 0 ≤ s1 ∧ s1 < ((s0.length : Nat) : Int) then (insNext_g1_J1 n s0 s1 ([IntKind.i64.wrap (s1 + (1 : Int)), IntKind.i64.wrap ((IntKind.i64.wrap (s1 + (1 : Int))) + ((s0.getD s1.toNat dIns).Off))] : List Int)) else none)
   (insNext_g1_J1 n s0 s1 ([IntKind.i64.wrap (s1 + (1 : Int))] : List Int))) else none) := by kernel_rfl
theorem insNext_g1_J1_eq (n : Nat) (s0 : List Ins) (s1 : Int) (r0 : List Int) : insNext_g1_J1 (n + 1) s0 s1 r0 =
  if 0 ≤ s1 ∧ s1 < ((s0.length : Nat) : Int) then (forkB (((s0.getD s1.toNat dIns).Op) == (16 : Int))
  (if 0 ≤ (1 : Int) ∧ (1 : Int) ≤ ((r0.length : Nat) : Int) ∧ ((r0.length : Nat) : Int) ≤ ((r0.length : Nat) : Int) then (obind (slicesSort_g1 BIG r0 1 ((((r0.length : Nat) : Int).toNat) - 1)) fun y1 =>
   obind (slicesCompact_g1 BIG y1.1.1 1 ((((r0.length : Nat) : Int).toNat) - 1)) fun y2 =>
   some ((), ((y2.1.1, y2.2.1.1, y2.2.1.2), ()))) else none)
  (obind (slicesSort BIG r0) fun y3 =>
   obind (slicesCompact_g2 BIG y3.1) fun y4 =>
   some ((), ((y4.1.1, y4.2.1.1, y4.2.1.2), ())))) else none := by kernel_rfl
noncomputable def insNext_g1_sp : GSpec TT := ⟨[.val (.list (.user 0)), .val (.int .i64)], [], [.slr 3 (.int .i64)], fun x => insNext_g1 BIG x.1 x.2.1⟩
theorem insNext_g1_ok : GOk TT Try.prog 19 insNext_g1_sp := gOk_of (C := insNext_g1_C) (cuts := insNext_g1_cuts) (by kernel_rfl) insNext_g1_env Try.func19 (show Try.f19.body = some (bodyOf Try.f19) by kernel_rfl) (by kernel_rfl) (by kernel_rfl) (by kernel_rfl) fun x y h => ⟨BIG, h⟩
noncomputable def shapeCheck_4_g1_C : Ctx TT := ⟨tyOf, [(19, insNext_g1_sp.toCall (noCall TT)), (13, shape_when_sp.toCall)], 3, [(4, 1)], layOf⟩
theorem shapeCheck_4_g1_env : EnvOk TT Try.prog shapeCheck_4_g1_C.E := envG (gCall_ok insNext_g1_ok (noCall_ok 19)) (envG (fnCall_ok shape_when_ok) (envNil))
def shapeCheck_4_g1_cuts : List (Pos × Cut) := [([false, true, false, true], ⟨[0, 2, 9, 10, 11], [], false, []⟩), ([true, true, false, false, true, false, true], ⟨[0, 2, 9, 10, 11], [], false, []⟩)]
noncomputable def shapeCheck_4_g1 (n : Nat) (x0 : Int) (x1 : List Ins) (x2 : List Bool) : Option (((List Ins × Unit) × (Unit × Unit) × List Bool × Unit) × (Int × Unit)) := topG TT Try.prog shapeCheck_4_g1_C shapeCheck_4_g1_cuts Try.f18 (bodyOf Try.f18) ⟨[], [], [], [], []⟩ [.val (.int .i64), .ptr 0 29 [.val (.list (.user 0))], .ptr 0 53 [.row 4 (.bool)]] [.blk 29 [.val (.list (.user 0))], .blk 53 [.own 2], .row 4 (.bool)] [.val (.int .i64)] n (x0, (x1, ()), (x2, ()), ())
noncomputable def shapeCheck_4_g1_L0 (n : Nat) (s0 : Int) (s9o : Nat) (s9n : Nat) (s10 : Int) (s11 : Int) (b0_0 : List Ins) (r2 : List Bool) (r3 : List Int) : Option (((List Ins × Unit) × (Unit × Unit) × List Bool × Unit) × (Int × Unit)) := cutG TT Try.prog shapeCheck_4_g1_C shapeCheck_4_g1_cuts Try.f18 (bodyOf Try.f18) ⟨[], [], [], [], []⟩ [.blk 29 [.val (.list (.user 0))], .blk 53 [.own 2], .row 4 (.bool)] [.val (.int .i64)] n [false, true, false, true] ⟨[(0, .cell ⟨.int .i64, s0⟩), (2, .ptr 1 0), (9, .sl 3 1 s9o s9n), (10, .cell ⟨.int .i64, s10⟩), (11, .cell ⟨.int .i64, s11⟩)], [.blk 29 [.cell ⟨.list (.user 0), b0_0⟩], .blk 53 [.own 2], .row 4 (.bool) r2, .row 3 (.int .i64) r3]⟩
noncomputable def shapeCheck_4_g1_J1 (n : Nat) (s0 : Int) (s9o : Nat) (s9n : Nat) (s10 : Int) (s11 : Int) (b0_0 : List Ins) (r2 : List Bool) (r3 : List Int) : Option (((List Ins × Unit) × (Unit × Unit) × List Bool × Unit) × (Int × Unit)) := cutG TT Try.prog shapeCheck_4_g1_C shapeCheck_4_g1_cuts Try.f18 (bodyOf Try.f18) ⟨[], [], [], [], []⟩ [.blk 29 [.val (.list (.user 0))], .blk 53 [.own 2], .row 4 (.bool)] [.val (.int .i64)] n [true, true, false, false, true, false, true] ⟨[(0, .cell ⟨.int .i64, s0⟩), (2, .ptr 1 0), (9, .sl 3 1 s9o s9n), (10, .cell ⟨.int .i64, s10⟩), (11, .cell ⟨.int .i64, s11⟩)], [.blk 29 [.cell ⟨.list (.user 0), b0_0⟩], .blk 53 [.own 2], .row 4 (.bool) r2, .row 3 (.int .i64) r3]⟩
theorem shapeCheck_4_g1_eq (n : Nat) (x0 : Int) (x1 : List Ins) (x2 : List Bool) : shapeCheck_4_g1 n x0 x1 x2 =
  obind (insNext_g1 BIG x1 x0) fun y1 =>
  shapeCheck_4_g1_L0 n x0 y1.2.1.2.1 y1.2.1.2.2 ((y1.2.1.2.2 : Nat) : Int) (0 : Int) x1 x2 y1.2.1.1 := by kernel_rfl
theorem shapeCheck_4_g1_L0_eq (n : Nat) (s0 : Int) (s9o : Nat) (s9n : Nat) (s10 : Int) (s11 : Int) (b0_0 : List Ins) (r2 : List Bool) (r3 : List Int) : shapeCheck_4_g1_L0 (n + 1) s0 s9o s9n s10 s11 b0_0 r2 r3 =
  forkB (decide (s11 < s10))
  (if 0 ≤ s11 ∧ s11 < ((s9n : Nat) : Int) then (if s9o + s11.toNat < r3.length then (if 0 ≤ r3.getD (s9o + s11.toNat) (0 : Int) ∧ r3.getD (s9o + s11.toNat) (0 : Int) < ((r2.length : Nat) : Int) then (forkB (r2.getD ((r3.getD (s9o + s11.toNat) (0 : Int)).toNat) false)
   (if 0 ≤ r3.getD (s9o + s11.toNat) (0 : Int) ∧ r3.getD (s9o + s11.toNat) (0 : Int) < ((r2.length : Nat) : Int) then (shapeCheck_4_g1_J1 n s0 s9o s9n s10 s11 b0_0 (r2.set ((r3.getD (s9o + s11.toNat) (0 : Int)).toNat) true) r3) else none)
   (if 0 ≤ s0 ∧ s0 < ((r2.length : Nat) : Int) then (if 0 ≤ r3.getD (s9o + s11.toNat) (0 : Int) ∧ r3.getD (s9o + s11.toNat) (0 : Int) < ((r2.length : Nat) : Int) then (shapeCheck_4_g1_J1 n s0 s9o s9n s10 s11 b0_0 (r2.set ((r3.getD (s9o + s11.toNat) (0 : Int)).toNat) (r2.getD s0.toNat false)) r3) else none) else none)) else none) else none) else none)
  (if 0 ≤ s0 ∧ s0 < ((r2.length : Nat) : Int) then (obind (shape_when BIG (!(r2.getD s0.toNat false)) (103 : Int)) fun y1 =>
   some (((b0_0, ()), ((), ()), r2, ()), (y1, ()))) else none) := by kernel_rfl
theorem shapeCheck_4_g1_J1_eq (n : Nat) (s0 : Int) (s9o : Nat) (s9n : Nat) (s10 : Int) (s11 : Int) (b0_0 : List Ins) (r2 : List Bool) (r3 : List Int) : shapeCheck_4_g1_J1 (n + 1) s0 s9o s9n s10 s11 b0_0 r2 r3 =
  shapeCheck_4_g1_L0 n s0 s9o s9n s10 (IntKind.i64.wrap (s11 + (1 : Int))) b0_0 r2 r3 := by kernel_rfl
noncomputable def shapeCheck_4_g1_sp : GSpec TT := ⟨[.val (.int .i64), .ptr 0 29 [.val (.list (.user 0))], .ptr 0 53 [.row 4 (.bool)]], [.blk 29 [.val (.list (.user 0))], .blk 53 [.own 2], .row 4 (.bool)], [.val (.int .i64)], fun x => shapeCheck_4_g1 BIG x.1 x.2.1.1 x.2.2.1.1⟩
theorem shapeCheck_4_g1_ok : GOk TT Try.prog 18 shapeCheck_4_g1_sp := gOk_of (C := shapeCheck_4_g1_C) (cuts := shapeCheck_4_g1_cuts) (by kernel_rfl) shapeCheck_4_g1_env Try.func18 (show Try.f18.body = some (bodyOf Try.f18) by kernel_rfl) (by kernel_rfl) (by kernel_rfl) (by kernel_rfl) fun x y h => ⟨BIG, h⟩
noncomputable def shape_first_g1_C : Ctx TT := ⟨tyOf, [(12, shapeCheck_1_g1_sp.toCall (noCall TT)), (15, shapeCheck_2_g1_sp.toCall (noCall TT)), (17, shapeCheck_3_g1_sp.toCall (noCall TT)), (18, shapeCheck_4_g1_sp.toCall (noCall TT))], 4, [], layOf⟩
theorem shape_first_g1_env : EnvOk TT Try.prog shape_first_g1_C.E := envG (gCall_ok shapeCheck_1_g1_ok (noCall_ok 12)) (envG (gCall_ok shapeCheck_2_g1_ok (noCall_ok 15)) (envG (gCall_ok shapeCheck_3_g1_ok (noCall_ok 17)) (envG (gCall_ok shapeCheck_4_g1_ok (noCall_ok 18)) (envNil))))
def shape_first_g1_cuts : List (Pos × Cut) := [([false, true, false, true], ⟨[0, 4, 9, 10, 11], [], true, []⟩), ([false, true, true, false, false, true, true, false, false, true, false, true], ⟨[0, 4, 6, 9, 10, 11, 15, 16], [], false, []⟩)]
noncomputable def shape_first_g1 (n : Nat) (x0 : Int) (x1 : List Ins) (x2 : List Bool) : Option (((((Unit) × (Unit × Unit)) × ((Unit) × (Unit × Unit)) × ((Unit) × (Unit × Unit)) × ((Unit) × (Unit × Unit × Unit)) × Unit) × (List Ins × Unit) × (Unit × Unit) × List Bool × Unit) × (Fault × Unit)) := topG TT Try.prog shape_first_g1_C shape_first_g1_cuts Try.f11 (bodyOf Try.f11) ⟨[], [], [], [], []⟩ [.val (.int .i64), .slb 1 4 57 [.fn 12 [] [.ptr 0 29 [.val (.list (.user 0))]], .fn 15 [] [.at_ 1 0], .fn 17 [] [.at_ 1 0], .fn 18 [] [.at_ 1 0, .ptr 0 53 [.row 4 (.bool)]]]] [.blk 57 [.fn 12 [] [.at_ 1 0], .fn 15 [] [.at_ 1 0], .fn 17 [] [.at_ 1 0], .fn 18 [] [.at_ 1 0, .at_ 2 0]], .blk 29 [.val (.list (.user 0))], .blk 53 [.own 3], .row 4 (.bool)] [.val (.user 1)] n (x0, (((), ((x1, ()), ())), ((), ((), ())), ((), ((), ())), ((), ((), (x2, ()), ())), ()), ())
noncomputable def shape_first_g1_L1 (n : Nat) (s0 : Int) (s15 : Int) (s16 : Int) (b1_0 : List Ins) (r3 : List Bool) (b4_0 : Int) (b4_1 : Int) : Option (((((Unit) × (Unit × Unit)) × ((Unit) × (Unit × Unit)) × ((Unit) × (Unit × Unit)) × ((Unit) × (Unit × Unit × Unit)) × Unit) × (List Ins × Unit) × (Unit × Unit) × List Bool × Unit) × (Fault × Unit)) := cutG TT Try.prog shape_first_g1_C shape_first_g1_cuts Try.f11 (bodyOf Try.f11) ⟨[], [], [], [], []⟩ [.blk 57 [.fn 12 [] [.at_ 1 0], .fn 15 [] [.at_ 1 0], .fn 17 [] [.at_ 1 0], .fn 18 [] [.at_ 1 0, .at_ 2 0]], .blk 29 [.val (.list (.user 0))], .blk 53 [.own 3], .row 4 (.bool)] [.val (.user 1)] n [false, true, true, false, false, true, true, false, false, true, false, true] ⟨[(0, .cell ⟨.int .i64, s0⟩), (4, .ptr 4 0), (6, .fn (.func 12) [] [.ptr 1 0]), (9, .sl 0 1 0 4), (10, .cell ⟨.int .i64, (4 : Int)⟩), (11, .cell ⟨.int .i64, (0 : Int)⟩), (15, .cell ⟨.int .i64, s15⟩), (16, .cell ⟨.int .i64, s16⟩)], [.blk 57 [.fn (.func 12) [] [.ptr 1 0], .fn (.func 15) [] [.ptr 1 0], .fn (.func 17) [] [.ptr 1 0], .fn (.func 18) [] [.ptr 1 0, .ptr 2 0]], .blk 29 [.cell ⟨.list (.user 0), b1_0⟩], .blk 53 [.own 3], .row 4 (.bool) r3, .blk 37 [.cell ⟨.int .i64, b4_0⟩, .cell ⟨.int .i64, b4_1⟩]]⟩
noncomputable def shape_first_g1_L1a (n : Nat) (s0 : Int) (s15 : Int) (s16 : Int) (b1_0 : List Ins) (r3 : List Bool) (b4_0 : Int) (b4_1 : Int) : Option (((((Unit) × (Unit × Unit)) × ((Unit) × (Unit × Unit)) × ((Unit) × (Unit × Unit)) × ((Unit) × (Unit × Unit × Unit)) × Unit) × (List Ins × Unit) × (Unit × Unit) × List Bool × Unit) × (Fault × Unit)) := cutG TT Try.prog shape_first_g1_C shape_first_g1_cuts Try.f11 (bodyOf Try.f11) ⟨[], [], [], [], []⟩ [.blk 57 [.fn 12 [] [.at_ 1 0], .fn 15 [] [.at_ 1 0], .fn 17 [] [.at_ 1 0], .fn 18 [] [.at_ 1 0, .at_ 2 0]], .blk 29 [.val (.list (.user 0))], .blk 53 [.own 3], .row 4 (.bool)] [.val (.user 1)] n [false, true, true, false, false, true, true, false, false, true, false, true] ⟨[(0, .cell ⟨.int .i64, s0⟩), (4, .ptr 4 0), (6, .fn (.func 15) [] [.ptr 1 0]), (9, .sl 0 1 0 4), (10, .cell ⟨.int .i64, (4 : Int)⟩), (11, .cell ⟨.int .i64, (1 : Int)⟩), (15, .cell ⟨.int .i64, s15⟩), (16, .cell ⟨.int .i64, s16⟩)], [.blk 57 [.fn (.func 12) [] [.ptr 1 0], .fn (.func 15) [] [.ptr 1 0], .fn (.func 17) [] [.ptr 1 0], .fn (.func 18) [] [.ptr 1 0, .ptr 2 0]], .blk 29 [.cell ⟨.list (.user 0), b1_0⟩], .blk 53 [.own 3], .row 4 (.bool) r3, .blk 37 [.cell ⟨.int .i64, b4_0⟩, .cell ⟨.int .i64, b4_1⟩]]⟩
noncomputable def shape_first_g1_L1b (n : Nat) (s0 : Int) (s15 : Int) (s16 : Int) (b1_0 : List Ins) (r3 : List Bool) (b4_0 : Int) (b4_1 : Int) : Option (((((Unit) × (Unit × Unit)) × ((Unit) × (Unit × Unit)) × ((Unit) × (Unit × Unit)) × ((Unit) × (Unit × Unit × Unit)) × Unit) × (List Ins × Unit) × (Unit × Unit) × List Bool × Unit) × (Fault × Unit)) := cutG TT Try.prog shape_first_g1_C shape_first_g1_cuts Try.f11 (bodyOf Try.f11) ⟨[], [], [], [], []⟩ [.blk 57 [.fn 12 [] [.at_ 1 0], .fn 15 [] [.at_ 1 0], .fn 17 [] [.at_ 1 0], .fn 18 [] [.at_ 1 0, .at_ 2 0]], .blk 29 [.val (.list (.user 0))], .blk 53 [.own 3], .row 4 (.bool)] [.val (.user 1)] n [false, true, true, false, false, true, true, false, false, true, false, true] ⟨[(0, .cell ⟨.int .i64, s0⟩), (4, .ptr 4 0), (6, .fn (.func 17) [] [.ptr 1 0]), (9, .sl 0 1 0 4), (10, .cell ⟨.int .i64, (4 : Int)⟩), (11, .cell ⟨.int .i64, (2 : Int)⟩), (15, .cell ⟨.int .i64, s15⟩), (16, .cell ⟨.int .i64, s16⟩)], [.blk 57 [.fn (.func 12) [] [.ptr 1 0], .fn (.func 15) [] [.ptr 1 0], .fn (.func 17) [] [.ptr 1 0], .fn (.func 18) [] [.ptr 1 0, .ptr 2 0]], .blk 29 [.cell ⟨.list (.user 0), b1_0⟩], .blk 53 [.own 3], .row 4 (.bool) r3, .blk 37 [.cell ⟨.int .i64, b4_0⟩, .cell ⟨.int .i64, b4_1⟩]]⟩
noncomputable def shape_first_g1_L1c (n : Nat) (s0 : Int) (s15 : Int) (s16 : Int) (b1_0 : List Ins) (r3 : List Bool) (b4_0 : Int) (b4_1 : Int) : Option (((((Unit) × (Unit × Unit)) × ((Unit) × (Unit × Unit)) × ((Unit) × (Unit × Unit)) × ((Unit) × (Unit × Unit × Unit)) × Unit) × (List Ins × Unit) × (Unit × Unit) × List Bool × Unit) × (Fault × Unit)) := cutG TT Try.prog shape_first_g1_C shape_first_g1_cuts Try.f11 (bodyOf Try.f11) ⟨[], [], [], [], []⟩ [.blk 57 [.fn 12 [] [.at_ 1 0], .fn 15 [] [.at_ 1 0], .fn 17 [] [.at_ 1 0], .fn 18 [] [.at_ 1 0, .at_ 2 0]], .blk 29 [.val (.list (.user 0))], .blk 53 [.own 3], .row 4 (.bool)] [.val (.user 1)] n [false, true, true, false, false, true, true, false, false, true, false, true] ⟨[(0, .cell ⟨.int .i64, s0⟩), (4, .ptr 4 0), (6, .fn (.func 18) [] [.ptr 1 0, .ptr 2 0]), (9, .sl 0 1 0 4), (10, .cell ⟨.int .i64, (4 : Int)⟩), (11, .cell ⟨.int .i64, (3 : Int)⟩), (15, .cell ⟨.int .i64, s15⟩), (16, .cell ⟨.int .i64, s16⟩)], [.blk 57 [.fn (.func 12) [] [.ptr 1 0], .fn (.func 15) [] [.ptr 1 0], .fn (.func 17) [] [.ptr 1 0], .fn (.func 18) [] [.ptr 1 0, .ptr 2 0]], .blk 29 [.cell ⟨.list (.user 0), b1_0⟩], .blk 53 [.own 3], .row 4 (.bool) r3, .blk 37 [.cell ⟨.int .i64, b4_0⟩, .cell ⟨.int .i64, b4_1⟩]]⟩
theorem shape_first_g1_eq (n : Nat) (x0 : Int) (x1 : List Ins) (x2 : List Bool) : shape_first_g1 (n + 1) x0 x1 x2 =
  shape_first_g1_L1 n x0 x0 (0 : Int) x1 x2 (0 : Int) (0 : Int) := by kernel_rfl
theorem shape_first_g1_L1_eq (n : Nat) (s0 : Int) (s15 : Int) (s16 : Int) (b1_0 : List Ins) (r3 : List Bool) (b4_0 : Int) (b4_1 : Int) : shape_first_g1_L1 (n + 2) s0 s15 s16 b1_0 r3 b4_0 b4_1 =
  forkB (decide (s16 < s15))
  (obind (shapeCheck_1_g1 BIG s16 b1_0) fun y1 =>
   forkB (y1.2.1 != (0 : Int))
   (some (((((), ((), ())), ((), ((), ())), ((), ((), ())), ((), ((), (), ())), ()), (y1.1.1.1, ()), ((), ()), r3, ()), ((⟨y1.2.1, s16⟩ : Fault), ())))
   (shape_first_g1_L1 (n + 1) s0 s15 (IntKind.i64.wrap (s16 + (1 : Int))) y1.1.1.1 r3 b4_0 b4_1))
  (shape_first_g1_L1a n s0 s0 (0 : Int) b1_0 r3 b4_0 b4_1) := by kernel_rfl
theorem shape_first_g1_L1a_eq (n : Nat) (s0 : Int) (s15 : Int) (s16 : Int) (b1_0 : List Ins) (r3 : List Bool) (b4_0 : Int) (b4_1 : Int) : shape_first_g1_L1a (n + 2) s0 s15 s16 b1_0 r3 b4_0 b4_1 =
  forkB (decide (s16 < s15))
  (obind (shapeCheck_2_g1 BIG s16 b1_0) fun y1 =>
   forkB (y1.2.1 != (0 : Int))
   (some (((((), ((), ())), ((), ((), ())), ((), ((), ())), ((), ((), (), ())), ()), (y1.1.1.1, ()), ((), ()), r3, ()), ((⟨y1.2.1, s16⟩ : Fault), ())))
   (shape_first_g1_L1a (n + 1) s0 s15 (IntKind.i64.wrap (s16 + (1 : Int))) y1.1.1.1 r3 b4_0 b4_1))
  (shape_first_g1_L1b n s0 s0 (0 : Int) b1_0 r3 b4_0 b4_1) := by kernel_rfl
theorem shape_first_g1_L1b_eq (n : Nat) (s0 : Int) (s15 : Int) (s16 : Int) (b1_0 : List Ins) (r3 : List Bool) (b4_0 : Int) (b4_1 : Int) : shape_first_g1_L1b (n + 2) s0 s15 s16 b1_0 r3 b4_0 b4_1 =
  forkB (decide (s16 < s15))
  (obind (shapeCheck_3_g1 BIG s16 b1_0) fun y1 =>
   forkB (y1.2.1 != (0 : Int))
   (some (((((), ((), ())), ((), ((), ())), ((), ((), ())), ((), ((), (), ())), ()), (y1.1.1.1, ()), ((), ()), r3, ()), ((⟨y1.2.1, s16⟩ : Fault), ())))
   (shape_first_g1_L1b (n + 1) s0 s15 (IntKind.i64.wrap (s16 + (1 : Int))) y1.1.1.1 r3 b4_0 b4_1))
  (shape_first_g1_L1c n s0 s0 (0 : Int) b1_0 r3 b4_0 b4_1) := by kernel_rfl
theorem shape_first_g1_L1c_eq (n : Nat) (s0 : Int) (s15 : Int) (s16 : Int) (b1_0 : List Ins) (r3 : List Bool) (b4_0 : Int) (b4_1 : Int) : shape_first_g1_L1c (n + 2) s0 s15 s16 b1_0 r3 b4_0 b4_1 =
  forkB (decide (s16 < s15))
  (obind (shapeCheck_4_g1 BIG s16 b1_0 r3) fun y1 =>
   forkB (y1.2.1 != (0 : Int))
   (some (((((), ((), ())), ((), ((), ())), ((), ((), ())), ((), ((), (), ())), ()), (y1.1.1.1, ()), ((), ()), y1.1.2.2.1, ()), ((⟨y1.2.1, s16⟩ : Fault), ())))
   (shape_first_g1_L1c (n + 1) s0 s15 (IntKind.i64.wrap (s16 + (1 : Int))) y1.1.1.1 y1.1.2.2.1 b4_0 b4_1))
  (some (((((), ((), ())), ((), ((), ())), ((), ((), ())), ((), ((), (), ())), ()), (b1_0, ()), ((), ()), r3, ()), ((⟨(0 : Int), (0 : Int)⟩ : Fault), ()))) := by kernel_rfl
noncomputable def shape_first_g1_sp : GSpec TT := ⟨[.val (.int .i64), .slb 1 4 57 [.fn 12 [] [.ptr 0 29 [.val (.list (.user 0))]], .fn 15 [] [.at_ 1 0], .fn 17 [] [.at_ 1 0], .fn 18 [] [.at_ 1 0, .ptr 0 53 [.row 4 (.bool)]]]], [.blk 57 [.fn 12 [] [.at_ 1 0], .fn 15 [] [.at_ 1 0], .fn 17 [] [.at_ 1 0], .fn 18 [] [.at_ 1 0, .at_ 2 0]], .blk 29 [.val (.list (.user 0))], .blk 53 [.own 3], .row 4 (.bool)], [.val (.user 1)], fun x => shape_first_g1 BIG x.1 x.2.1.1.2.1.1 x.2.1.2.2.2.1.2.2.1.1⟩
theorem shape_first_g1_ok : GOk TT Try.prog 11 shape_first_g1_sp := gOk_of (C := shape_first_g1_C) (cuts := shape_first_g1_cuts) (by kernel_rfl) shape_first_g1_env Try.func11 (show Try.f11.body = some (bodyOf Try.f11) by kernel_rfl) (by kernel_rfl) (by kernel_rfl) (by kernel_rfl) fun x y h => ⟨BIG, h⟩
noncomputable def shapeCheck_C : Ctx TT := ⟨tyOf, [(11, shape_first_g1_sp.toCall (noCall TT))], 0, [], layOf⟩
theorem shapeCheck_env : EnvOk TT Try.prog shapeCheck_C.E := envG (gCall_ok shape_first_g1_ok (noCall_ok 11)) (envNil)
def shapeCheck_cuts : List (Pos × Cut) := []
noncomputable def shapeCheck (n : Nat) (x0 : List Ins) : Option (Fault) := topF TT Try.prog shapeCheck_C shapeCheck_cuts Try.f9 (bodyOf Try.f9) ⟨[], []⟩ [.val (.list (.user 0))] [.val (.user 1)] n x0
theorem shapeCheck_eq (n : Nat) (x0 : List Ins) : shapeCheck n x0 =
  forkB (((x0.length : Nat) : Int) == (0 : Int))
  (some (⟨(6 : Int), (0 : Int)⟩ : Fault))
  (forkB (decide (((x0.length : Nat) : Int) > (4096 : Int)))
   (some (⟨(3 : Int), (0 : Int)⟩ : Fault))
   (if 0 ≤ ((x0.length : Nat) : Int) ∧ ((x0.length : Nat) : Int) ≤ ((x0.length : Nat) : Int) ∧ 1 * (((x0.length : Nat) : Int).toNat) ≤ 281474976710656 ∧ ((x0.length : Nat) : Int) ≤ 9223372036854775807 then (if 0 ≤ (0 : Int) ∧ (0 : Int) < (((List.replicate (((x0.length : Nat) : Int).toNat) false).length : Nat) : Int) then (obind (shape_first_g1 BIG ((x0.length : Nat) : Int) x0 ((List.replicate (((x0.length : Nat) : Int).toNat) false).set 0 true)) fun y1 =>
    some y1.2.1) else none) else none)) := by kernel_rfl
noncomputable def shapeCheck_sp : FnSpec TT := ⟨[.val (.list (.user 0))], [.val (.user 1)], fun x => shapeCheck BIG x⟩
theorem shapeCheck_ok : FnOk TT Try.prog 9 shapeCheck_sp := fnOk_of (C := shapeCheck_C) (by kernel_rfl) shapeCheck_env Try.func9 (show Try.f9.body = some (bodyOf Try.f9) by kernel_rfl) (by kernel_rfl) (by kernel_rfl) (cuts := shapeCheck_cuts) fun x y h => ⟨BIG, h⟩
end Go.X
