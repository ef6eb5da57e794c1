/- What functions of the document compute. -/
import Derived.Test.YtdlmkfnjljlmgaaIa
namespace Go.X
open Go.RowKit Go.V Go.Proofs
noncomputable def ref06_target_C : Ctx TT := ⟨tyOf, [], 0, []⟩
theorem ref06_target_env : EnvOk TT Try.prog ref06_target_C.E := envNil
def ref06_target_cuts : List (Pos × Cut) := []
noncomputable def ref06_target (n : Nat) (x0 : Int) : Option (Bool) := topF TT Try.prog ref06_target_C ref06_target_cuts Try.f38 (bodyOf Try.f38) [.val (.int .i64)] [.val (.bool)] n x0
theorem ref06_target_eq (n : Nat) (x0 : Int) : ref06_target n x0 =
  forkB (decide (x0 ≥ (0 : Int)))
  (some (decide (x0 ≤ (9 : Int))))
  (some false) := by kernel_rfl
noncomputable def ref06_target_sp : FnSpec TT := ⟨[.val (.int .i64)], [.val (.bool)], fun x => ref06_target BIG x⟩
theorem ref06_target_ok : FnOk TT Try.prog 38 ref06_target_sp := fnOk_of (C := ref06_target_C) (by kernel_rfl) ref06_target_env Try.func38 (show Try.f38.body = some (bodyOf Try.f38) by kernel_rfl) (by kernel_rfl) (by kernel_rfl) (cuts := ref06_target_cuts) fun x y h => ⟨BIG, h⟩
noncomputable def ref06_register_C : Ctx TT := ⟨tyOf, [], 0, []⟩
theorem ref06_register_env : EnvOk TT Try.prog ref06_register_C.E := envNil
def ref06_register_cuts : List (Pos × Cut) := []
noncomputable def ref06_register (n : Nat) (x0 : Int) : Option (Bool) := topF TT Try.prog ref06_register_C ref06_register_cuts Try.f40 (bodyOf Try.f40) [.val (.int .i64)] [.val (.bool)] n x0
theorem ref06_register_eq (n : Nat) (x0 : Int) : ref06_register n x0 =
  forkB (decide (x0 ≥ (0 : Int)))
  (some (decide (x0 ≤ (10 : Int))))
  (some false) := by kernel_rfl
noncomputable def ref06_register_sp : FnSpec TT := ⟨[.val (.int .i64)], [.val (.bool)], fun x => ref06_register BIG x⟩
theorem ref06_register_ok : FnOk TT Try.prog 40 ref06_register_sp := fnOk_of (C := ref06_register_C) (by kernel_rfl) ref06_register_env Try.func40 (show Try.f40.body = some (bodyOf Try.f40) by kernel_rfl) (by kernel_rfl) (by kernel_rfl) (cuts := ref06_register_cuts) fun x y h => ⟨BIG, h⟩
noncomputable def ref06_second_C : Ctx TT := ⟨tyOf, [(40, ref06_register_sp.toCall)], 0, []⟩
theorem ref06_second_env : EnvOk TT Try.prog ref06_second_C.E := envG (fnCall_ok ref06_register_ok) (envNil)
def ref06_second_cuts : List (Pos × Cut) := [([false, true, false, true], ⟨[2], [], false, []⟩)]
noncomputable def ref06_second (n : Nat) (x0 : Ins) : Option (Bool) := topF TT Try.prog ref06_second_C ref06_second_cuts Try.f39 (bodyOf Try.f39) [.val (.user 0)] [.val (.bool)] n x0
noncomputable def ref06_second_J0 (n : Nat) (s2 : Bool) : Option (Bool) := cutF TT Try.prog ref06_second_C ref06_second_cuts Try.f39 (bodyOf Try.f39) [.val (.user 0)] [.val (.bool)] n [false, true, false, true] ⟨[(2, .cell ⟨.bool, s2⟩)], []⟩
theorem ref06_second_eq (n : Nat) (x0 : Ins) : ref06_second n x0 =
  forkB x0.UseImm
  (forkB (x0.Src == (0 : Int))
   (forkB (decide (x0.Imm ≥ (-2147483648 : Int)))
    (ref06_second_J0 n (decide (x0.Imm < (2147483648 : Int))))
    (ref06_second_J0 n false))
   (ref06_second_J0 n false))
  (obind (ref06_register BIG x0.Src) fun y1 =>
   forkB y1
   (some (x0.Imm == (0 : Int)))
   (some false)) := by kernel_rfl
theorem ref06_second_J0_eq (n : Nat) (s2 : Bool) : ref06_second_J0 (n + 1) s2 =
  some s2 := by kernel_rfl
noncomputable def ref06_second_sp : FnSpec TT := ⟨[.val (.user 0)], [.val (.bool)], fun x => ref06_second BIG x⟩
theorem ref06_second_ok : FnOk TT Try.prog 39 ref06_second_sp := fnOk_of (C := ref06_second_C) (by kernel_rfl) ref06_second_env Try.func39 (show Try.f39.body = some (bodyOf Try.f39) by kernel_rfl) (by kernel_rfl) (by kernel_rfl) (cuts := ref06_second_cuts) fun x y h => ⟨BIG, h⟩
noncomputable def ref06_far_C : Ctx TT := ⟨tyOf, [], 0, []⟩
theorem ref06_far_env : EnvOk TT Try.prog ref06_far_C.E := envNil
def ref06_far_cuts : List (Pos × Cut) := []
noncomputable def ref06_far (n : Nat) (x0 : Ins) : Option (Bool) := topF TT Try.prog ref06_far_C ref06_far_cuts Try.f41 (bodyOf Try.f41) [.val (.user 0)] [.val (.bool)] n x0
theorem ref06_far_eq (n : Nat) (x0 : Ins) : ref06_far n x0 =
  forkB (decide (x0.Off ≥ (-32768 : Int)))
  (some (decide (x0.Off < (32768 : Int))))
  (some false) := by kernel_rfl
noncomputable def ref06_far_sp : FnSpec TT := ⟨[.val (.user 0)], [.val (.bool)], fun x => ref06_far BIG x⟩
theorem ref06_far_ok : FnOk TT Try.prog 41 ref06_far_sp := fnOk_of (C := ref06_far_C) (by kernel_rfl) ref06_far_env Try.func41 (show Try.f41.body = some (bodyOf Try.f41) by kernel_rfl) (by kernel_rfl) (by kernel_rfl) (cuts := ref06_far_cuts) fun x y h => ⟨BIG, h⟩
noncomputable def ref06_sized_C : Ctx TT := ⟨tyOf, [], 0, []⟩
theorem ref06_sized_env : EnvOk TT Try.prog ref06_sized_C.E := envNil
def ref06_sized_cuts : List (Pos × Cut) := []
noncomputable def ref06_sized (n : Nat) (x0 : Ins) : Option (Bool) := topF TT Try.prog ref06_sized_C ref06_sized_cuts Try.f42 (bodyOf Try.f42) [.val (.user 0)] [.val (.bool)] n x0
theorem ref06_sized_eq (n : Nat) (x0 : Ins) : ref06_sized n x0 =
  forkB (x0.Size == (1 : Int))
  (some true)
  (forkB (x0.Size == (2 : Int))
   (some true)
   (forkB (x0.Size == (4 : Int))
    (some true)
    (some (x0.Size == (8 : Int))))) := by kernel_rfl
noncomputable def ref06_sized_sp : FnSpec TT := ⟨[.val (.user 0)], [.val (.bool)], fun x => ref06_sized BIG x⟩
theorem ref06_sized_ok : FnOk TT Try.prog 42 ref06_sized_sp := fnOk_of (C := ref06_sized_C) (by kernel_rfl) ref06_sized_env Try.func42 (show Try.f42.body = some (bodyOf Try.f42) by kernel_rfl) (by kernel_rfl) (by kernel_rfl) (cuts := ref06_sized_cuts) fun x y h => ⟨BIG, h⟩
noncomputable def ref06Cond_C : Ctx TT := ⟨tyOf, [], 0, []⟩
theorem ref06Cond_env : EnvOk TT Try.prog ref06Cond_C.E := envNil
def ref06Cond_cuts : List (Pos × Cut) := []
noncomputable def ref06Cond (n : Nat) (x0 : Ins) : Option (Bool) := topF TT Try.prog ref06Cond_C ref06Cond_cuts Try.f43 (bodyOf Try.f43) [.val (.user 0)] [.val (.bool)] n x0
theorem ref06Cond_eq (n : Nat) (x0 : Ins) : ref06Cond n x0 =
  forkB (decide (x0.Op ≥ (17 : Int)))
  (some (decide (x0.Op ≤ (27 : Int))))
  (some false) := by kernel_rfl
noncomputable def ref06Cond_sp : FnSpec TT := ⟨[.val (.user 0)], [.val (.bool)], fun x => ref06Cond BIG x⟩
theorem ref06Cond_ok : FnOk TT Try.prog 43 ref06Cond_sp := fnOk_of (C := ref06Cond_C) (by kernel_rfl) ref06Cond_env Try.func43 (show Try.f43.body = some (bodyOf Try.f43) by kernel_rfl) (by kernel_rfl) (by kernel_rfl) (cuts := ref06Cond_cuts) fun x y h => ⟨BIG, h⟩
noncomputable def ref06Right_C : Ctx TT := ⟨tyOf, [(38, ref06_target_sp.toCall), (39, ref06_second_sp.toCall), (40, ref06_register_sp.toCall), (41, ref06_far_sp.toCall), (42, ref06_sized_sp.toCall), (43, ref06Cond_sp.toCall)], 0, []⟩
theorem ref06Right_env : EnvOk TT Try.prog ref06Right_C.E := envG (fnCall_ok ref06_target_ok) (envG (fnCall_ok ref06_second_ok) (envG (fnCall_ok ref06_register_ok) (envG (fnCall_ok ref06_far_ok) (envG (fnCall_ok ref06_sized_ok) (envG (fnCall_ok ref06Cond_ok) (envNil))))))
def ref06Right_cuts : List (Pos × Cut) := [([false, false, true], ⟨[1, 3], [], false, []⟩)]
noncomputable def ref06Right (n : Nat) (x0 : Ins) : Option (Bool) := topF TT Try.prog ref06Right_C ref06Right_cuts Try.f14 (bodyOf Try.f14) [.val (.user 0)] [.val (.bool)] n x0
noncomputable def ref06Right_J0 (n : Nat) (s3 : Bool) (b0_0 : Int) (b0_1 : Bool) (b0_2 : Int) (b0_3 : Int) (b0_4 : Bool) (b0_5 : Int) (b0_6 : Int) (b0_7 : Int) : Option (Bool) := cutF TT Try.prog ref06Right_C ref06Right_cuts Try.f14 (bodyOf Try.f14) [.val (.user 0)] [.val (.bool)] n [false, false, true] ⟨[(1, .ptr 0 0), (3, .cell ⟨.bool, s3⟩)], [.blk 27 [.cell ⟨.int .u8, b0_0⟩, .cell ⟨.bool, b0_1⟩, .cell ⟨.int .i64, b0_2⟩, .cell ⟨.int .i64, b0_3⟩, .cell ⟨.bool, b0_4⟩, .cell ⟨.int .i64, b0_5⟩, .cell ⟨.int .i64, b0_6⟩, .cell ⟨.int .i64, b0_7⟩]]⟩
theorem ref06Right_eq (n : Nat) (x0 : Ins) : ref06Right n x0 =
  forkB (decide (x0.Op ≥ (1 : Int)))
  (ref06Right_J0 n (decide (x0.Op ≤ (12 : Int))) x0.Op x0.Narrow x0.Dst x0.Src x0.UseImm x0.Off x0.Imm x0.Size)
  (ref06Right_J0 n false x0.Op x0.Narrow x0.Dst x0.Src x0.UseImm x0.Off x0.Imm x0.Size) := by kernel_rfl
theorem ref06Right_J0_eq (n : Nat) (s3 : Bool) (b0_0 : Int) (b0_1 : Bool) (b0_2 : Int) (b0_3 : Int) (b0_4 : Bool) (b0_5 : Int) (b0_6 : Int) (b0_7 : Int) : ref06Right_J0 (n + 1) s3 b0_0 b0_1 b0_2 b0_3 b0_4 b0_5 b0_6 b0_7 =
  forkB s3
  (obind (ref06_target BIG b0_2) fun y1 =>
   forkB y1
   (obind (ref06_second BIG (⟨b0_0, b0_1, b0_2, b0_3, b0_4, b0_5, b0_6, b0_7⟩ : Ins)) fun y2 =>
    forkB y2
    (forkB (b0_5 == (0 : Int))
     (some (b0_7 == (0 : Int)))
     (some false))
    (some false))
   (some false))
  (forkB (b0_0 == (13 : Int))
   (obind (ref06_target BIG b0_2) fun y3 =>
    forkB y3
    (some ((b0_0 == b0_0) && ((b0_1 == b0_1) && ((b0_2 == b0_2) && ((b0_3 == (0 : Int)) && ((b0_4 == false) && ((b0_5 == (0 : Int)) && ((b0_6 == (0 : Int)) && (b0_7 == (0 : Int))))))))))
    (some false))
   (forkB (b0_0 == (14 : Int))
    (obind (ref06_target BIG b0_2) fun y4 =>
     forkB y4
     (obind (ref06_register BIG b0_3) fun y5 =>
      forkB y5
      (obind (ref06_far BIG (⟨b0_0, b0_1, b0_2, b0_3, b0_4, b0_5, b0_6, b0_7⟩ : Ins)) fun y6 =>
       forkB y6
       (obind (ref06_sized BIG (⟨b0_0, b0_1, b0_2, b0_3, b0_4, b0_5, b0_6, b0_7⟩ : Ins)) fun y7 =>
        forkB y7
        (some ((b0_0 == b0_0) && ((b0_1 == false) && ((b0_2 == b0_2) && ((b0_3 == b0_3) && ((b0_4 == false) && ((b0_5 == b0_5) && ((b0_6 == (0 : Int)) && (b0_7 == b0_7)))))))))
        (some false))
       (some false))
      (some false))
     (some false))
    (forkB (b0_0 == (15 : Int))
     (obind (ref06_register BIG b0_2) fun y8 =>
      forkB y8
      (obind (ref06_far BIG (⟨b0_0, b0_1, b0_2, b0_3, b0_4, b0_5, b0_6, b0_7⟩ : Ins)) fun y9 =>
       forkB y9
       (obind (ref06_sized BIG (⟨b0_0, b0_1, b0_2, b0_3, b0_4, b0_5, b0_6, b0_7⟩ : Ins)) fun y10 =>
        forkB y10
        (obind (ref06_second BIG (⟨b0_0, b0_1, b0_2, b0_3, b0_4, b0_5, b0_6, b0_7⟩ : Ins)) fun y11 =>
         forkB y11
         (some (!b0_1))
         (some false))
        (some false))
       (some false))
      (some false))
     (forkB (b0_0 == (16 : Int))
      (obind (ref06_far BIG (⟨b0_0, b0_1, b0_2, b0_3, b0_4, b0_5, b0_6, b0_7⟩ : Ins)) fun y12 =>
       forkB y12
       (some ((b0_0 == b0_0) && ((b0_1 == false) && ((b0_2 == (0 : Int)) && ((b0_3 == (0 : Int)) && ((b0_4 == false) && ((b0_5 == b0_5) && ((b0_6 == (0 : Int)) && (b0_7 == (0 : Int))))))))))
       (some false))
      (obind (ref06Cond BIG (⟨b0_0, b0_1, b0_2, b0_3, b0_4, b0_5, b0_6, b0_7⟩ : Ins)) fun y13 =>
       forkB y13
       (obind (ref06_register BIG b0_2) fun y14 =>
        forkB y14
        (obind (ref06_far BIG (⟨b0_0, b0_1, b0_2, b0_3, b0_4, b0_5, b0_6, b0_7⟩ : Ins)) fun y15 =>
         forkB y15
         (obind (ref06_second BIG (⟨b0_0, b0_1, b0_2, b0_3, b0_4, b0_5, b0_6, b0_7⟩ : Ins)) fun y16 =>
          forkB y16
          (some (b0_7 == (0 : Int)))
          (some false))
         (some false))
        (some false))
       (some ((b0_0 == (28 : Int)) && ((b0_1 == false) && ((b0_2 == (0 : Int)) && ((b0_3 == (0 : Int)) && ((b0_4 == false) && ((b0_5 == (0 : Int)) && ((b0_6 == (0 : Int)) && (b0_7 == (0 : Int))))))))))))))) := by kernel_rfl
noncomputable def ref06Right_sp : FnSpec TT := ⟨[.val (.user 0)], [.val (.bool)], fun x => ref06Right BIG x⟩
theorem ref06Right_ok : FnOk TT Try.prog 14 ref06Right_sp := fnOk_of (C := ref06Right_C) (by kernel_rfl) ref06Right_env Try.func14 (show Try.f14.body = some (bodyOf Try.f14) by kernel_rfl) (by kernel_rfl) (by kernel_rfl) (cuts := ref06Right_cuts) fun x y h => ⟨BIG, h⟩
noncomputable def ref06_bytes_C : Ctx TT := ⟨tyOf, [], 0, []⟩
theorem ref06_bytes_env : EnvOk TT Try.prog ref06_bytes_C.E := envNil
def ref06_bytes_cuts : List (Pos × Cut) := [([true, true], ⟨[1, 3], [], false, []⟩), ([true, true, true], ⟨[1, 3], [], false, []⟩), ([true, true, true, true], ⟨[1, 3], [], false, []⟩), ([true, true, true, true, true, true], ⟨[1, 3, 4, 5], [], false, []⟩), ([true, true, true, true, true, true, true], ⟨[1, 3, 4, 5], [], false, []⟩)]
noncomputable def ref06_bytes (n : Nat) (x0 : Ins) : Option (List Int) := topF TT Try.prog ref06_bytes_C ref06_bytes_cuts Try.f49 (bodyOf Try.f49) [.val (.user 0)] [.own 5 (.int .u8)] n x0
noncomputable def ref06_bytes_J0 (n : Nat) (s3 : Int) (b0_0 : Int) (b0_1 : Bool) (b0_2 : Int) (b0_3 : Int) (b0_4 : Bool) (b0_5 : Int) (b0_6 : Int) (b0_7 : Int) : Option (List Int) := cutF TT Try.prog ref06_bytes_C ref06_bytes_cuts Try.f49 (bodyOf Try.f49) [.val (.user 0)] [.own 5 (.int .u8)] n [true, true] ⟨[(1, .ptr 0 0), (3, .cell ⟨.int .i64, s3⟩)], [.blk 27 [.cell ⟨.int .u8, b0_0⟩, .cell ⟨.bool, b0_1⟩, .cell ⟨.int .i64, b0_2⟩, .cell ⟨.int .i64, b0_3⟩, .cell ⟨.bool, b0_4⟩, .cell ⟨.int .i64, b0_5⟩, .cell ⟨.int .i64, b0_6⟩, .cell ⟨.int .i64, b0_7⟩]]⟩
noncomputable def ref06_bytes_J1 (n : Nat) (s3 : Int) (b0_0 : Int) (b0_1 : Bool) (b0_2 : Int) (b0_3 : Int) (b0_4 : Bool) (b0_5 : Int) (b0_6 : Int) (b0_7 : Int) : Option (List Int) := cutF TT Try.prog ref06_bytes_C ref06_bytes_cuts Try.f49 (bodyOf Try.f49) [.val (.user 0)] [.own 5 (.int .u8)] n [true, true, true] ⟨[(1, .ptr 0 0), (3, .cell ⟨.int .i64, s3⟩)], [.blk 27 [.cell ⟨.int .u8, b0_0⟩, .cell ⟨.bool, b0_1⟩, .cell ⟨.int .i64, b0_2⟩, .cell ⟨.int .i64, b0_3⟩, .cell ⟨.bool, b0_4⟩, .cell ⟨.int .i64, b0_5⟩, .cell ⟨.int .i64, b0_6⟩, .cell ⟨.int .i64, b0_7⟩]]⟩
noncomputable def ref06_bytes_J2 (n : Nat) (s3 : Int) (b0_0 : Int) (b0_1 : Bool) (b0_2 : Int) (b0_3 : Int) (b0_4 : Bool) (b0_5 : Int) (b0_6 : Int) (b0_7 : Int) : Option (List Int) := cutF TT Try.prog ref06_bytes_C ref06_bytes_cuts Try.f49 (bodyOf Try.f49) [.val (.user 0)] [.own 5 (.int .u8)] n [true, true, true, true] ⟨[(1, .ptr 0 0), (3, .cell ⟨.int .i64, s3⟩)], [.blk 27 [.cell ⟨.int .u8, b0_0⟩, .cell ⟨.bool, b0_1⟩, .cell ⟨.int .i64, b0_2⟩, .cell ⟨.int .i64, b0_3⟩, .cell ⟨.bool, b0_4⟩, .cell ⟨.int .i64, b0_5⟩, .cell ⟨.int .i64, b0_6⟩, .cell ⟨.int .i64, b0_7⟩]]⟩
noncomputable def ref06_bytes_J3 (n : Nat) (s3 : Int) (s4 : Int) (s5 : Int) (b0_0 : Int) (b0_1 : Bool) (b0_2 : Int) (b0_3 : Int) (b0_4 : Bool) (b0_5 : Int) (b0_6 : Int) (b0_7 : Int) : Option (List Int) := cutF TT Try.prog ref06_bytes_C ref06_bytes_cuts Try.f49 (bodyOf Try.f49) [.val (.user 0)] [.own 5 (.int .u8)] n [true, true, true, true, true, true] ⟨[(1, .ptr 0 0), (3, .cell ⟨.int .i64, s3⟩), (4, .cell ⟨.int .i64, s4⟩), (5, .cell ⟨.int .i64, s5⟩)], [.blk 27 [.cell ⟨.int .u8, b0_0⟩, .cell ⟨.bool, b0_1⟩, .cell ⟨.int .i64, b0_2⟩, .cell ⟨.int .i64, b0_3⟩, .cell ⟨.bool, b0_4⟩, .cell ⟨.int .i64, b0_5⟩, .cell ⟨.int .i64, b0_6⟩, .cell ⟨.int .i64, b0_7⟩]]⟩
noncomputable def ref06_bytes_J4 (n : Nat) (s3 : Int) (s4 : Int) (s5 : Int) (b0_0 : Int) (b0_1 : Bool) (b0_2 : Int) (b0_3 : Int) (b0_4 : Bool) (b0_5 : Int) (b0_6 : Int) (b0_7 : Int) : Option (List Int) := cutF TT Try.prog ref06_bytes_C ref06_bytes_cuts Try.f49 (bodyOf Try.f49) [.val (.user 0)] [.own 5 (.int .u8)] n [true, true, true, true, true, true, true] ⟨[(1, .ptr 0 0), (3, .cell ⟨.int .i64, s3⟩), (4, .cell ⟨.int .i64, s4⟩), (5, .cell ⟨.int .i64, s5⟩)], [.blk 27 [.cell ⟨.int .u8, b0_0⟩, .cell ⟨.bool, b0_1⟩, .cell ⟨.int .i64, b0_2⟩, .cell ⟨.int .i64, b0_3⟩, .cell ⟨.bool, b0_4⟩, .cell ⟨.int .i64, b0_5⟩, .cell ⟨.int .i64, b0_6⟩, .cell ⟨.int .i64, b0_7⟩]]⟩
theorem ref06_bytes_eq (n : Nat) (x0 : Ins) : ref06_bytes n x0 =
  forkB x0.UseImm
  (ref06_bytes_J0 n (IntKind.i64.wrap ((IntKind.i64.wrap x0.Op) + (32 : Int))) x0.Op x0.Narrow x0.Dst x0.Src x0.UseImm x0.Off x0.Imm x0.Size)
  (ref06_bytes_J0 n (IntKind.i64.wrap x0.Op) x0.Op x0.Narrow x0.Dst x0.Src x0.UseImm x0.Off x0.Imm x0.Size) := by kernel_rfl
theorem ref06_bytes_J0_eq (n : Nat) (s3 : Int) (b0_0 : Int) (b0_1 : Bool) (b0_2 : Int) (b0_3 : Int) (b0_4 : Bool) (b0_5 : Int) (b0_6 : Int) (b0_7 : Int) : ref06_bytes_J0 (n + 1) s3 b0_0 b0_1 b0_2 b0_3 b0_4 b0_5 b0_6 b0_7 =
  forkB b0_1
  (ref06_bytes_J1 n (IntKind.i64.wrap (s3 + (64 : Int))) b0_0 b0_1 b0_2 b0_3 b0_4 b0_5 b0_6 b0_7)
  (ref06_bytes_J1 n s3 b0_0 b0_1 b0_2 b0_3 b0_4 b0_5 b0_6 b0_7) := by kernel_rfl
theorem ref06_bytes_J1_eq (n : Nat) (s3 : Int) (b0_0 : Int) (b0_1 : Bool) (b0_2 : Int) (b0_3 : Int) (b0_4 : Bool) (b0_5 : Int) (b0_6 : Int) (b0_7 : Int) : ref06_bytes_J1 (n + 1) s3 b0_0 b0_1 b0_2 b0_3 b0_4 b0_5 b0_6 b0_7 =
  forkB (b0_7 == (2 : Int))
  (ref06_bytes_J2 n (IntKind.i64.wrap (s3 + (64 : Int))) b0_0 b0_1 b0_2 b0_3 b0_4 b0_5 b0_6 b0_7)
  (forkB (b0_7 == (4 : Int))
   (ref06_bytes_J2 n (IntKind.i64.wrap (s3 + (128 : Int))) b0_0 b0_1 b0_2 b0_3 b0_4 b0_5 b0_6 b0_7)
   (forkB (b0_7 == (8 : Int))
    (ref06_bytes_J2 n (IntKind.i64.wrap (s3 + (192 : Int))) b0_0 b0_1 b0_2 b0_3 b0_4 b0_5 b0_6 b0_7)
    (ref06_bytes_J2 n s3 b0_0 b0_1 b0_2 b0_3 b0_4 b0_5 b0_6 b0_7))) := by kernel_rfl
theorem ref06_bytes_J2_eq (n : Nat) (s3 : Int) (b0_0 : Int) (b0_1 : Bool) (b0_2 : Int) (b0_3 : Int) (b0_4 : Bool) (b0_5 : Int) (b0_6 : Int) (b0_7 : Int) : ref06_bytes_J2 (n + 1) s3 b0_0 b0_1 b0_2 b0_3 b0_4 b0_5 b0_6 b0_7 =
  forkB (decide (b0_5 < (0 : Int)))
  (ref06_bytes_J3 n s3 (IntKind.i64.wrap (b0_5 + (65536 : Int))) b0_6 b0_0 b0_1 b0_2 b0_3 b0_4 b0_5 b0_6 b0_7)
  (ref06_bytes_J3 n s3 b0_5 b0_6 b0_0 b0_1 b0_2 b0_3 b0_4 b0_5 b0_6 b0_7) := by kernel_rfl
theorem ref06_bytes_J3_eq (n : Nat) (s3 : Int) (s4 : Int) (s5 : Int) (b0_0 : Int) (b0_1 : Bool) (b0_2 : Int) (b0_3 : Int) (b0_4 : Bool) (b0_5 : Int) (b0_6 : Int) (b0_7 : Int) : ref06_bytes_J3 (n + 1) s3 s4 s5 b0_0 b0_1 b0_2 b0_3 b0_4 b0_5 b0_6 b0_7 =
  forkB (decide (s5 < (0 : Int)))
  (ref06_bytes_J4 n s3 s4 (IntKind.i64.wrap (s5 + (4294967296 : Int))) b0_0 b0_1 b0_2 b0_3 b0_4 b0_5 b0_6 b0_7)
  (ref06_bytes_J4 n s3 s4 s5 b0_0 b0_1 b0_2 b0_3 b0_4 b0_5 b0_6 b0_7) := by kernel_rfl
theorem ref06_bytes_J4_eq (n : Nat) (s3 : Int) (s4 : Int) (s5 : Int) (b0_0 : Int) (b0_1 : Bool) (b0_2 : Int) (b0_3 : Int) (b0_4 : Bool) (b0_5 : Int) (b0_6 : Int) (b0_7 : Int) : ref06_bytes_J4 (n + 1) s3 s4 s5 b0_0 b0_1 b0_2 b0_3 b0_4 b0_5 b0_6 b0_7 =
  some ([IntKind.u8.wrap s3, IntKind.u8.wrap (IntKind.i64.wrap ((IntKind.i64.wrap ((16 : Int) * b0_2)) + b0_3)), IntKind.u8.wrap (IntKind.i64.wrap (s4.tdiv (256 : Int))), IntKind.u8.wrap (s4.tmod (256 : Int)), IntKind.u8.wrap (IntKind.i64.wrap (s5.tdiv (16777216 : Int))), IntKind.u8.wrap ((IntKind.i64.wrap (s5.tdiv (65536 : Int))).tmod (256 : Int)), IntKind.u8.wrap ((IntKind.i64.wrap (s5.tdiv (256 : Int))).tmod (256 : Int)), IntKind.u8.wrap (s5.tmod (256 : Int))] : List Int) := by kernel_rfl
noncomputable def ref06_bytes_sp : FnSpec TT := ⟨[.val (.user 0)], [.own 5 (.int .u8)], fun x => ref06_bytes BIG x⟩
theorem ref06_bytes_ok : FnOk TT Try.prog 49 ref06_bytes_sp := fnOk_of (C := ref06_bytes_C) (by kernel_rfl) ref06_bytes_env Try.func49 (show Try.f49.body = some (bodyOf Try.f49) by kernel_rfl) (by kernel_rfl) (by kernel_rfl) (cuts := ref06_bytes_cuts) fun x y h => ⟨BIG, h⟩
noncomputable def ref06Put_C : Ctx TT := ⟨tyOf, [(14, ref06Right_sp.toCall), (49, ref06_bytes_sp.toCall)], 0, []⟩
theorem ref06Put_env : EnvOk TT Try.prog ref06Put_C.E := envG (fnCall_ok ref06Right_ok) (envG (fnCall_ok ref06_bytes_ok) (envNil))
def ref06Put_cuts : List (Pos × Cut) := [([false, true, false, true, true, true], ⟨[0, 4, 5], [(4, 5, .int .u8)], false, []⟩)]
noncomputable def ref06Put (n : Nat) (x0 : List Ins) : Option (List Int × Int) := topF TT Try.prog ref06Put_C ref06Put_cuts Try.f24 (bodyOf Try.f24) [.val (.list (.user 0))] [.own 5 (.int .u8), .val (.int .i64)] n x0
noncomputable def ref06Put_L0 (n : Nat) (s0 : List Ins) (s5 : Int) (r0 : List Int) : Option (List Int × Int) := cutF TT Try.prog ref06Put_C ref06Put_cuts Try.f24 (bodyOf Try.f24) [.val (.list (.user 0))] [.own 5 (.int .u8), .val (.int .i64)] n [false, true, false, true, true, true] ⟨[(0, .cell ⟨.list (.user 0), s0⟩), (4, .own 0), (5, .cell ⟨.int .i64, s5⟩)], [.row 5 (.int .u8) r0]⟩
theorem ref06Put_eq (n : Nat) (x0 : List Ins) : ref06Put n x0 =
  forkB (decide (((x0.length : Nat) : Int) > (4096 : Int)))
  (some (([] : List Int), (3 : Int)))
  (ref06Put_L0 n x0 (0 : Int) ([] : List Int)) := by kernel_rfl
theorem ref06Put_L0_eq (n : Nat) (s0 : List Ins) (s5 : Int) (r0 : List Int) : ref06Put_L0 (n + 1) s0 s5 r0 =
  forkB (decide (s5 < ((s0.length : Nat) : Int)))
  (if 0 ≤ s5 ∧ s5 < ((s0.length : Nat) : Int) then (obind (ref06Right BIG (s0.getD s5.toNat dIns)) fun y1 =>
   forkB (!y1)
   (some (([] : List Int), (4 : Int)))
   (if 0 ≤ s5 ∧ s5 < ((s0.length : Nat) : Int) then (obind (ref06_bytes BIG (s0.getD s5.toNat dIns)) fun y2 =>
    if (r0.length + y2.length) * 1 ≤ 140737488355328 then (ref06Put_L0 n s0 (IntKind.i64.wrap (s5 + (1 : Int))) (r0 ++ y2)) else none) else none)) else none)
  (some (r0, (0 : Int))) := by kernel_rfl
noncomputable def ref06Put_sp : FnSpec TT := ⟨[.val (.list (.user 0))], [.own 5 (.int .u8), .val (.int .i64)], fun x => ref06Put BIG x⟩
theorem ref06Put_ok : FnOk TT Try.prog 24 ref06Put_sp := fnOk_of (C := ref06Put_C) (by kernel_rfl) ref06Put_env Try.func24 (show Try.f24.body = some (bodyOf Try.f24) by kernel_rfl) (by kernel_rfl) (by kernel_rfl) (cuts := ref06Put_cuts) fun x y h => ⟨BIG, h⟩
noncomputable def ref06_one_C : Ctx TT := ⟨tyOf, [(14, ref06Right_sp.toCall), (49, ref06_bytes_sp.toCall)], 0, [(1, 0), (2, 0), (5, 0), (16, 0)]⟩
theorem ref06_one_env : EnvOk TT Try.prog ref06_one_C.E := envG (fnCall_ok ref06Right_ok) (envG (fnCall_ok ref06_bytes_ok) (envNil))
def ref06_one_cuts : List (Pos × Cut) := [([true, true, true], ⟨[0, 2, 4], [], false, []⟩), ([true, true, true, true, true], ⟨[0, 2, 4], [], false, []⟩), ([true, true, true, true, true, true, true], ⟨[0, 2, 4], [], false, []⟩), ([false, true, true, true, true, true, true, true], ⟨[0, 2, 4, 5, 88], [], false, []⟩), ([false, true, true, false, true, false, true, true, true, true, true, true, true], ⟨[0, 2, 4, 5, 6], [], false, []⟩)]
noncomputable def ref06_one (n : Nat) (x0 : List Int) : Option (Ins × Bool) := topF TT Try.prog ref06_one_C ref06_one_cuts Try.f52 (bodyOf Try.f52) [.val (.list (.int .u8))] [.val (.user 0), .val (.bool)] n x0
noncomputable def ref06_one_J0 (n : Nat) (s0 : List Int) (b0_0 : Int) (b0_1 : Bool) (b0_2 : Int) (b0_3 : Int) (b0_4 : Bool) (b0_5 : Int) (b0_6 : Int) (b0_7 : Int) (b1_0 : Int) (b1_1 : Bool) (b1_2 : Int) (b1_3 : Int) (b1_4 : Bool) (b1_5 : Int) (b1_6 : Int) (b1_7 : Int) : Option (Ins × Bool) := cutF TT Try.prog ref06_one_C ref06_one_cuts Try.f52 (bodyOf Try.f52) [.val (.list (.int .u8))] [.val (.user 0), .val (.bool)] n [true, true, true] ⟨[(0, .cell ⟨.list (.int .u8), s0⟩), (2, .ptr 0 0), (4, .ptr 1 0)], [.blk 27 [.cell ⟨.int .u8, b0_0⟩, .cell ⟨.bool, b0_1⟩, .cell ⟨.int .i64, b0_2⟩, .cell ⟨.int .i64, b0_3⟩, .cell ⟨.bool, b0_4⟩, .cell ⟨.int .i64, b0_5⟩, .cell ⟨.int .i64, b0_6⟩, .cell ⟨.int .i64, b0_7⟩], .blk 27 [.cell ⟨.int .u8, b1_0⟩, .cell ⟨.bool, b1_1⟩, .cell ⟨.int .i64, b1_2⟩, .cell ⟨.int .i64, b1_3⟩, .cell ⟨.bool, b1_4⟩, .cell ⟨.int .i64, b1_5⟩, .cell ⟨.int .i64, b1_6⟩, .cell ⟨.int .i64, b1_7⟩]]⟩
noncomputable def ref06_one_J1 (n : Nat) (s0 : List Int) (b0_0 : Int) (b0_1 : Bool) (b0_2 : Int) (b0_3 : Int) (b0_4 : Bool) (b0_5 : Int) (b0_6 : Int) (b0_7 : Int) (b1_0 : Int) (b1_1 : Bool) (b1_2 : Int) (b1_3 : Int) (b1_4 : Bool) (b1_5 : Int) (b1_6 : Int) (b1_7 : Int) : Option (Ins × Bool) := cutF TT Try.prog ref06_one_C ref06_one_cuts Try.f52 (bodyOf Try.f52) [.val (.list (.int .u8))] [.val (.user 0), .val (.bool)] n [true, true, true, true, true] ⟨[(0, .cell ⟨.list (.int .u8), s0⟩), (2, .ptr 0 0), (4, .ptr 1 0)], [.blk 27 [.cell ⟨.int .u8, b0_0⟩, .cell ⟨.bool, b0_1⟩, .cell ⟨.int .i64, b0_2⟩, .cell ⟨.int .i64, b0_3⟩, .cell ⟨.bool, b0_4⟩, .cell ⟨.int .i64, b0_5⟩, .cell ⟨.int .i64, b0_6⟩, .cell ⟨.int .i64, b0_7⟩], .blk 27 [.cell ⟨.int .u8, b1_0⟩, .cell ⟨.bool, b1_1⟩, .cell ⟨.int .i64, b1_2⟩, .cell ⟨.int .i64, b1_3⟩, .cell ⟨.bool, b1_4⟩, .cell ⟨.int .i64, b1_5⟩, .cell ⟨.int .i64, b1_6⟩, .cell ⟨.int .i64, b1_7⟩]]⟩
noncomputable def ref06_one_J3 (n : Nat) (s0 : List Int) (s5 : Int) (s88 : Bool) (b0_0 : Int) (b0_1 : Bool) (b0_2 : Int) (b0_3 : Int) (b0_4 : Bool) (b0_5 : Int) (b0_6 : Int) (b0_7 : Int) (b1_0 : Int) (b1_1 : Bool) (b1_2 : Int) (b1_3 : Int) (b1_4 : Bool) (b1_5 : Int) (b1_6 : Int) (b1_7 : Int) : Option (Ins × Bool) := cutF TT Try.prog ref06_one_C ref06_one_cuts Try.f52 (bodyOf Try.f52) [.val (.list (.int .u8))] [.val (.user 0), .val (.bool)] n [false, true, true, true, true, true, true, true] ⟨[(0, .cell ⟨.list (.int .u8), s0⟩), (2, .ptr 0 0), (4, .ptr 1 0), (5, .cell ⟨.int .i64, s5⟩), (88, .cell ⟨.bool, s88⟩)], [.blk 27 [.cell ⟨.int .u8, b0_0⟩, .cell ⟨.bool, b0_1⟩, .cell ⟨.int .i64, b0_2⟩, .cell ⟨.int .i64, b0_3⟩, .cell ⟨.bool, b0_4⟩, .cell ⟨.int .i64, b0_5⟩, .cell ⟨.int .i64, b0_6⟩, .cell ⟨.int .i64, b0_7⟩], .blk 27 [.cell ⟨.int .u8, b1_0⟩, .cell ⟨.bool, b1_1⟩, .cell ⟨.int .i64, b1_2⟩, .cell ⟨.int .i64, b1_3⟩, .cell ⟨.bool, b1_4⟩, .cell ⟨.int .i64, b1_5⟩, .cell ⟨.int .i64, b1_6⟩, .cell ⟨.int .i64, b1_7⟩]]⟩
noncomputable def ref06_one_L4 (n : Nat) (s0 : List Int) (s5 : Int) (s6 : Int) (b0_0 : Int) (b0_1 : Bool) (b0_2 : Int) (b0_3 : Int) (b0_4 : Bool) (b0_5 : Int) (b0_6 : Int) (b0_7 : Int) (b1_0 : Int) (b1_1 : Bool) (b1_2 : Int) (b1_3 : Int) (b1_4 : Bool) (b1_5 : Int) (b1_6 : Int) (b1_7 : Int) : Option (Ins × Bool) := cutF TT Try.prog ref06_one_C ref06_one_cuts Try.f52 (bodyOf Try.f52) [.val (.list (.int .u8))] [.val (.user 0), .val (.bool)] n [false, true, true, false, true, false, true, true, true, true, true, true, true] ⟨[(0, .cell ⟨.list (.int .u8), s0⟩), (2, .ptr 0 0), (4, .ptr 1 0), (5, .cell ⟨.int .i64, s5⟩), (6, .cell ⟨.int .i64, s6⟩)], [.blk 27 [.cell ⟨.int .u8, b0_0⟩, .cell ⟨.bool, b0_1⟩, .cell ⟨.int .i64, b0_2⟩, .cell ⟨.int .i64, b0_3⟩, .cell ⟨.bool, b0_4⟩, .cell ⟨.int .i64, b0_5⟩, .cell ⟨.int .i64, b0_6⟩, .cell ⟨.int .i64, b0_7⟩], .blk 27 [.cell ⟨.int .u8, b1_0⟩, .cell ⟨.bool, b1_1⟩, .cell ⟨.int .i64, b1_2⟩, .cell ⟨.int .i64, b1_3⟩, .cell ⟨.bool, b1_4⟩, .cell ⟨.int .i64, b1_5⟩, .cell ⟨.int .i64, b1_6⟩, .cell ⟨.int .i64, b1_7⟩]]⟩
noncomputable def ref06_one_J2 (n : Nat) (s0 : List Int) (b0_0 : Int) (b0_1 : Bool) (b0_2 : Int) (b0_3 : Int) (b0_4 : Bool) (b0_5 : Int) (b0_6 : Int) (b0_7 : Int) (b1_0 : Int) (b1_1 : Bool) (b1_2 : Int) (b1_3 : Int) (b1_4 : Bool) (b1_5 : Int) (b1_6 : Int) (b1_7 : Int) : Option (Ins × Bool) := cutF TT Try.prog ref06_one_C ref06_one_cuts Try.f52 (bodyOf Try.f52) [.val (.list (.int .u8))] [.val (.user 0), .val (.bool)] n [true, true, true, true, true, true, true] ⟨[(0, .cell ⟨.list (.int .u8), s0⟩), (2, .ptr 0 0), (4, .ptr 1 0)], [.blk 27 [.cell ⟨.int .u8, b0_0⟩, .cell ⟨.bool, b0_1⟩, .cell ⟨.int .i64, b0_2⟩, .cell ⟨.int .i64, b0_3⟩, .cell ⟨.bool, b0_4⟩, .cell ⟨.int .i64, b0_5⟩, .cell ⟨.int .i64, b0_6⟩, .cell ⟨.int .i64, b0_7⟩], .blk 27 [.cell ⟨.int .u8, b1_0⟩, .cell ⟨.bool, b1_1⟩, .cell ⟨.int .i64, b1_2⟩, .cell ⟨.int .i64, b1_3⟩, .cell ⟨.bool, b1_4⟩, .cell ⟨.int .i64, b1_5⟩, .cell ⟨.int .i64, b1_6⟩, .cell ⟨.int .i64, b1_7⟩]]⟩
theorem ref06_one_eq (n : Nat) (x0 : List Int) : ref06_one n x0 =
  if 0 ≤ (0 : Int) ∧ (0 : Int) < ((x0.length : Nat) : Int) then (if 0 ≤ (0 : Int) ∧ (0 : Int) < ((x0.length : Nat) : Int) then (if 0 ≤ (1 : Int) ∧ (1 : Int) < ((x0.length : Nat) : Int) then (if 0 ≤ (1 : Int) ∧ (1 : Int) < ((x0.length : Nat) : Int) then (if 0 ≤ (2 : Int) ∧ (2 : Int) < ((x0.length : Nat) : Int) then (if 0 ≤ (3 : Int) ∧ (3 : Int) < ((x0.length : Nat) : Int) then (forkB (decide ((IntKind.i64.wrap ((IntKind.i64.wrap ((256 : Int) * (IntKind.i64.wrap (x0.getD 2 (0 : Int))))) + (IntKind.i64.wrap (x0.getD 3 (0 : Int))))) ≥ (32768 : Int)))
  (ref06_one_J0 n x0 (0 : Int) false (0 : Int) (0 : Int) false (0 : Int) (0 : Int) (0 : Int) ((x0.getD 0 (0 : Int)).tmod (32 : Int)) false (IntKind.i64.wrap ((IntKind.i64.wrap (x0.getD 1 (0 : Int))).tdiv (16 : Int))) ((IntKind.i64.wrap (x0.getD 1 (0 : Int))).tmod (16 : Int)) (((IntKind.u8.wrap ((x0.getD 0 (0 : Int)).tdiv (32 : Int))).tmod (2 : Int)) == (1 : Int)) (IntKind.i64.wrap ((IntKind.i64.wrap ((IntKind.i64.wrap ((256 : Int) * (IntKind.i64.wrap (x0.getD 2 (0 : Int))))) + (IntKind.i64.wrap (x0.getD 3 (0 : Int))))) - (65536 : Int))) (0 : Int) (0 : Int))
  (ref06_one_J0 n x0 (0 : Int) false (0 : Int) (0 : Int) false (0 : Int) (0 : Int) (0 : Int) ((x0.getD 0 (0 : Int)).tmod (32 : Int)) false (IntKind.i64.wrap ((IntKind.i64.wrap (x0.getD 1 (0 : Int))).tdiv (16 : Int))) ((IntKind.i64.wrap (x0.getD 1 (0 : Int))).tmod (16 : Int)) (((IntKind.u8.wrap ((x0.getD 0 (0 : Int)).tdiv (32 : Int))).tmod (2 : Int)) == (1 : Int)) (IntKind.i64.wrap ((IntKind.i64.wrap ((256 : Int) * (IntKind.i64.wrap (x0.getD 2 (0 : Int))))) + (IntKind.i64.wrap (x0.getD 3 (0 : Int))))) (0 : Int) (0 : Int))) else none) else none) else none) else none) else none) else none := by kernel_rfl
theorem ref06_one_J0_eq (n : Nat) (s0 : List Int) (b0_0 : Int) (b0_1 : Bool) (b0_2 : Int) (b0_3 : Int) (b0_4 : Bool) (b0_5 : Int) (b0_6 : Int) (b0_7 : Int) (b1_0 : Int) (b1_1 : Bool) (b1_2 : Int) (b1_3 : Int) (b1_4 : Bool) (b1_5 : Int) (b1_6 : Int) (b1_7 : Int) : ref06_one_J0 (n + 1) s0 b0_0 b0_1 b0_2 b0_3 b0_4 b0_5 b0_6 b0_7 b1_0 b1_1 b1_2 b1_3 b1_4 b1_5 b1_6 b1_7 =
  if 0 ≤ (4 : Int) ∧ (4 : Int) < ((s0.length : Nat) : Int) then (if 0 ≤ (5 : Int) ∧ (5 : Int) < ((s0.length : Nat) : Int) then (if 0 ≤ (6 : Int) ∧ (6 : Int) < ((s0.length : Nat) : Int) then (if 0 ≤ (7 : Int) ∧ (7 : Int) < ((s0.length : Nat) : Int) then (forkB (decide ((IntKind.i64.wrap ((IntKind.i64.wrap ((IntKind.i64.wrap ((IntKind.i64.wrap ((16777216 : Int) * (IntKind.i64.wrap (s0.getD 4 (0 : Int))))) + (IntKind.i64.wrap ((65536 : Int) * (IntKind.i64.wrap (s0.getD 5 (0 : Int))))))) + (IntKind.i64.wrap ((256 : Int) * (IntKind.i64.wrap (s0.getD 6 (0 : Int))))))) + (IntKind.i64.wrap (s0.getD 7 (0 : Int))))) ≥ (2147483648 : Int)))
  (ref06_one_J1 n s0 b0_0 b0_1 b0_2 b0_3 b0_4 b0_5 b0_6 b0_7 b1_0 b1_1 b1_2 b1_3 b1_4 b1_5 (IntKind.i64.wrap ((IntKind.i64.wrap ((IntKind.i64.wrap ((IntKind.i64.wrap ((IntKind.i64.wrap ((16777216 : Int) * (IntKind.i64.wrap (s0.getD 4 (0 : Int))))) + (IntKind.i64.wrap ((65536 : Int) * (IntKind.i64.wrap (s0.getD 5 (0 : Int))))))) + (IntKind.i64.wrap ((256 : Int) * (IntKind.i64.wrap (s0.getD 6 (0 : Int))))))) + (IntKind.i64.wrap (s0.getD 7 (0 : Int))))) - (4294967296 : Int))) b1_7)
  (ref06_one_J1 n s0 b0_0 b0_1 b0_2 b0_3 b0_4 b0_5 b0_6 b0_7 b1_0 b1_1 b1_2 b1_3 b1_4 b1_5 (IntKind.i64.wrap ((IntKind.i64.wrap ((IntKind.i64.wrap ((IntKind.i64.wrap ((16777216 : Int) * (IntKind.i64.wrap (s0.getD 4 (0 : Int))))) + (IntKind.i64.wrap ((65536 : Int) * (IntKind.i64.wrap (s0.getD 5 (0 : Int))))))) + (IntKind.i64.wrap ((256 : Int) * (IntKind.i64.wrap (s0.getD 6 (0 : Int))))))) + (IntKind.i64.wrap (s0.getD 7 (0 : Int))))) b1_7)) else none) else none) else none) else none := by kernel_rfl
theorem ref06_one_J1_eq (n : Nat) (s0 : List Int) (b0_0 : Int) (b0_1 : Bool) (b0_2 : Int) (b0_3 : Int) (b0_4 : Bool) (b0_5 : Int) (b0_6 : Int) (b0_7 : Int) (b1_0 : Int) (b1_1 : Bool) (b1_2 : Int) (b1_3 : Int) (b1_4 : Bool) (b1_5 : Int) (b1_6 : Int) (b1_7 : Int) : ref06_one_J1 (n + 1) s0 b0_0 b0_1 b0_2 b0_3 b0_4 b0_5 b0_6 b0_7 b1_0 b1_1 b1_2 b1_3 b1_4 b1_5 b1_6 b1_7 =
  if 0 ≤ (0 : Int) ∧ (0 : Int) < ((s0.length : Nat) : Int) then (forkB (b1_0 == (14 : Int))
  (ref06_one_J3 n s0 (IntKind.i64.wrap ((IntKind.i64.wrap (s0.getD 0 (0 : Int))).tdiv (64 : Int))) true b0_0 b0_1 b0_2 b0_3 b0_4 b0_5 b0_6 b0_7 b1_0 b1_1 b1_2 b1_3 b1_4 b1_5 b1_6 b1_7)
  (ref06_one_J3 n s0 (IntKind.i64.wrap ((IntKind.i64.wrap (s0.getD 0 (0 : Int))).tdiv (64 : Int))) (b1_0 == (15 : Int)) b0_0 b0_1 b0_2 b0_3 b0_4 b0_5 b0_6 b0_7 b1_0 b1_1 b1_2 b1_3 b1_4 b1_5 b1_6 b1_7)) else none := by kernel_rfl
theorem ref06_one_J3_eq (n : Nat) (s0 : List Int) (s5 : Int) (s88 : Bool) (b0_0 : Int) (b0_1 : Bool) (b0_2 : Int) (b0_3 : Int) (b0_4 : Bool) (b0_5 : Int) (b0_6 : Int) (b0_7 : Int) (b1_0 : Int) (b1_1 : Bool) (b1_2 : Int) (b1_3 : Int) (b1_4 : Bool) (b1_5 : Int) (b1_6 : Int) (b1_7 : Int) : ref06_one_J3 (n + 1) s0 s5 s88 b0_0 b0_1 b0_2 b0_3 b0_4 b0_5 b0_6 b0_7 b1_0 b1_1 b1_2 b1_3 b1_4 b1_5 b1_6 b1_7 =
  forkB s88
  (ref06_one_L4 n s0 s5 (0 : Int) b0_0 b0_1 b0_2 b0_3 b0_4 b0_5 b0_6 b0_7 b1_0 b1_1 b1_2 b1_3 b1_4 b1_5 b1_6 (1 : Int))
  (ref06_one_J2 n s0 b0_0 b0_1 b0_2 b0_3 b0_4 b0_5 b0_6 b0_7 b1_0 ((s5.tmod (2 : Int)) == (1 : Int)) b1_2 b1_3 b1_4 b1_5 b1_6 b1_7) := by kernel_rfl
theorem ref06_one_L4_eq (n : Nat) (s0 : List Int) (s5 : Int) (s6 : Int) (b0_0 : Int) (b0_1 : Bool) (b0_2 : Int) (b0_3 : Int) (b0_4 : Bool) (b0_5 : Int) (b0_6 : Int) (b0_7 : Int) (b1_0 : Int) (b1_1 : Bool) (b1_2 : Int) (b1_3 : Int) (b1_4 : Bool) (b1_5 : Int) (b1_6 : Int) (b1_7 : Int) : ref06_one_L4 (n + 1) s0 s5 s6 b0_0 b0_1 b0_2 b0_3 b0_4 b0_5 b0_6 b0_7 b1_0 b1_1 b1_2 b1_3 b1_4 b1_5 b1_6 b1_7 =
  forkB (decide (s6 < s5))
  (ref06_one_L4 n s0 s5 (IntKind.i64.wrap (s6 + (1 : Int))) b0_0 b0_1 b0_2 b0_3 b0_4 b0_5 b0_6 b0_7 b1_0 b1_1 b1_2 b1_3 b1_4 b1_5 b1_6 (IntKind.i64.wrap ((2 : Int) * b1_7)))
  (ref06_one_J2 n s0 b0_0 b0_1 b0_2 b0_3 b0_4 b0_5 b0_6 b0_7 b1_0 b1_1 b1_2 b1_3 b1_4 b1_5 b1_6 b1_7) := by kernel_rfl
theorem ref06_one_J2_eq (n : Nat) (s0 : List Int) (b0_0 : Int) (b0_1 : Bool) (b0_2 : Int) (b0_3 : Int) (b0_4 : Bool) (b0_5 : Int) (b0_6 : Int) (b0_7 : Int) (b1_0 : Int) (b1_1 : Bool) (b1_2 : Int) (b1_3 : Int) (b1_4 : Bool) (b1_5 : Int) (b1_6 : Int) (b1_7 : Int) : ref06_one_J2 (n + 1) s0 b0_0 b0_1 b0_2 b0_3 b0_4 b0_5 b0_6 b0_7 b1_0 b1_1 b1_2 b1_3 b1_4 b1_5 b1_6 b1_7 =
  obind (ref06Right BIG (⟨b1_0, b1_1, b1_2, b1_3, b1_4, b1_5, b1_6, b1_7⟩ : Ins)) fun y1 =>
  forkB y1
  (obind (ref06_bytes BIG (⟨b1_0, b1_1, b1_2, b1_3, b1_4, b1_5, b1_6, b1_7⟩ : Ins)) fun y2 =>
   some ((⟨b1_0, b1_1, b1_2, b1_3, b1_4, b1_5, b1_6, b1_7⟩ : Ins), (ByteArray.toList (bytesStr y2) == ByteArray.toList (bytesStr s0))))
  (some ((⟨b1_0, b1_1, b1_2, b1_3, b1_4, b1_5, b1_6, b1_7⟩ : Ins), false)) := by kernel_rfl
noncomputable def ref06_one_sp : FnSpec TT := ⟨[.val (.list (.int .u8))], [.val (.user 0), .val (.bool)], fun x => ref06_one BIG x⟩
theorem ref06_one_ok : FnOk TT Try.prog 52 ref06_one_sp := fnOk_of (C := ref06_one_C) (by kernel_rfl) ref06_one_env Try.func52 (show Try.f52.body = some (bodyOf Try.f52) by kernel_rfl) (by kernel_rfl) (by kernel_rfl) (cuts := ref06_one_cuts) fun x y h => ⟨BIG, h⟩
noncomputable def ref06Get_C : Ctx TT := ⟨tyOf, [(52, ref06_one_sp.toCall)], 0, []⟩
theorem ref06Get_env : EnvOk TT Try.prog ref06Get_C.E := envG (fnCall_ok ref06_one_ok) (envNil)
def ref06Get_cuts : List (Pos × Cut) := [([false, true, false, true, true, true, true], ⟨[0, 4, 5], [(4, 27, .user 0)], false, []⟩)]
noncomputable def ref06Get (n : Nat) (x0 : List Int) : Option (List Ins × Int) := topF TT Try.prog ref06Get_C ref06Get_cuts Try.f26 (bodyOf Try.f26) [.val (.list (.int .u8))] [.own 27 (.user 0), .val (.int .i64)] n x0
noncomputable def ref06Get_L0 (n : Nat) (s0 : List Int) (s5 : Int) (r0 : List Ins) : Option (List Ins × Int) := cutF TT Try.prog ref06Get_C ref06Get_cuts Try.f26 (bodyOf Try.f26) [.val (.list (.int .u8))] [.own 27 (.user 0), .val (.int .i64)] n [false, true, false, true, true, true, true] ⟨[(0, .cell ⟨.list (.int .u8), s0⟩), (4, .own 0), (5, .cell ⟨.int .i64, s5⟩)], [.row 27 (.user 0) r0]⟩
theorem ref06Get_eq (n : Nat) (x0 : List Int) : ref06Get n x0 =
  forkB (decide (((x0.length : Nat) : Int) > (32768 : Int)))
  (some (([] : List Ins), (3 : Int)))
  (forkB ((((x0.length : Nat) : Int).tmod (8 : Int)) != (0 : Int))
   (some (([] : List Ins), (4 : Int)))
   (ref06Get_L0 n x0 (0 : Int) ([] : List Ins))) := by kernel_rfl
theorem ref06Get_L0_eq (n : Nat) (s0 : List Int) (s5 : Int) (r0 : List Ins) : ref06Get_L0 (n + 1) s0 s5 r0 =
  forkB (decide (s5 < ((s0.length : Nat) : Int)))
  (if 0 ≤ s5 ∧ s5 ≤ IntKind.i64.wrap (s5 + (8 : Int)) ∧ IntKind.i64.wrap (s5 + (8 : Int)) ≤ ((s0.length : Nat) : Int) then (obind (ref06_one BIG (List.take (((IntKind.i64.wrap (s5 + (8 : Int))).toNat) - s5.toNat) (List.drop s5.toNat s0))) fun y1 =>
   forkB (!y1.2)
   (some (([] : List Ins), (4 : Int)))
   (if (r0.length + 1) * 56 ≤ 140737488355328 then (ref06Get_L0 n s0 (IntKind.i64.wrap (s5 + (8 : Int))) (r0 ++ ([y1.1] : List Ins))) else none)) else none)
  (some (r0, (0 : Int))) := by kernel_rfl
noncomputable def ref06Get_sp : FnSpec TT := ⟨[.val (.list (.int .u8))], [.own 27 (.user 0), .val (.int .i64)], fun x => ref06Get BIG x⟩
theorem ref06Get_ok : FnOk TT Try.prog 26 ref06Get_sp := fnOk_of (C := ref06Get_C) (by kernel_rfl) ref06Get_env Try.func26 (show Try.f26.body = some (bodyOf Try.f26) by kernel_rfl) (by kernel_rfl) (by kernel_rfl) (cuts := ref06Get_cuts) fun x y h => ⟨BIG, h⟩
noncomputable def ref06Next_C : Ctx TT := ⟨tyOf, [(14, ref06Right_sp.toCall), (43, ref06Cond_sp.toCall)], 0, []⟩
theorem ref06Next_env : EnvOk TT Try.prog ref06Next_C.E := envG (fnCall_ok ref06Right_ok) (envG (fnCall_ok ref06Cond_ok) (envNil))
def ref06Next_cuts : List (Pos × Cut) := [([false, true], ⟨[0, 1, 22], [], false, []⟩), ([true, true, true, true, false, false, true, true, true, true], ⟨[1, 5, 6, 42], [], false, []⟩), ([true, true, true, true, true, true, false, false, true, true, true, true], ⟨[1, 6, 55], [], false, []⟩)]
noncomputable def ref06Next (n : Nat) (x0 : List Ins) (x1 : Int) : Option (List Int) := topF TT Try.prog ref06Next_C ref06Next_cuts Try.f19 (bodyOf Try.f19) [.val (.list (.user 0)), .val (.int .i64)] [.own 3 (.int .i64)] n (x0, x1)
noncomputable def ref06Next_J0 (n : Nat) (s0 : List Ins) (s1 : Int) (s22 : Bool) : Option (List Int) := cutF TT Try.prog ref06Next_C ref06Next_cuts Try.f19 (bodyOf Try.f19) [.val (.list (.user 0)), .val (.int .i64)] [.own 3 (.int .i64)] n [false, true] ⟨[(0, .cell ⟨.list (.user 0), s0⟩), (1, .cell ⟨.int .i64, s1⟩), (22, .cell ⟨.bool, s22⟩)], []⟩
noncomputable def ref06Next_J1 (n : Nat) (s1 : Int) (s6 : Int) (s42 : Bool) (b0_0 : Int) (b0_1 : Bool) (b0_2 : Int) (b0_3 : Int) (b0_4 : Bool) (b0_5 : Int) (b0_6 : Int) (b0_7 : Int) : Option (List Int) := cutF TT Try.prog ref06Next_C ref06Next_cuts Try.f19 (bodyOf Try.f19) [.val (.list (.user 0)), .val (.int .i64)] [.own 3 (.int .i64)] n [true, true, true, true, false, false, true, true, true, true] ⟨[(1, .cell ⟨.int .i64, s1⟩), (5, .ptr 0 0), (6, .cell ⟨.int .i64, s6⟩), (42, .cell ⟨.bool, s42⟩)], [.blk 27 [.cell ⟨.int .u8, b0_0⟩, .cell ⟨.bool, b0_1⟩, .cell ⟨.int .i64, b0_2⟩, .cell ⟨.int .i64, b0_3⟩, .cell ⟨.bool, b0_4⟩, .cell ⟨.int .i64, b0_5⟩, .cell ⟨.int .i64, b0_6⟩, .cell ⟨.int .i64, b0_7⟩]]⟩
noncomputable def ref06Next_J2 (n : Nat) (s1 : Int) (s6 : Int) (s55 : Bool) : Option (List Int) := cutF TT Try.prog ref06Next_C ref06Next_cuts Try.f19 (bodyOf Try.f19) [.val (.list (.user 0)), .val (.int .i64)] [.own 3 (.int .i64)] n [true, true, true, true, true, true, false, false, true, true, true, true] ⟨[(1, .cell ⟨.int .i64, s1⟩), (6, .cell ⟨.int .i64, s6⟩), (55, .cell ⟨.bool, s55⟩)], []⟩
theorem ref06Next_eq (n : Nat) (x0 : List Ins) (x1 : Int) : ref06Next n x0 x1 =
  forkB (decide (x1 < (0 : Int)))
  (ref06Next_J0 n x0 x1 true)
  (forkB (decide (x1 ≥ ((x0.length : Nat) : Int)))
   (ref06Next_J0 n x0 x1 true)
   (if 0 ≤ x1 ∧ x1 < ((x0.length : Nat) : Int) then (obind (ref06Right BIG (x0.getD x1.toNat dIns)) fun y1 =>
    ref06Next_J0 n x0 x1 (!y1)) else none)) := by kernel_rfl
theorem ref06Next_J0_eq (n : Nat) (s0 : List Ins) (s1 : Int) (s22 : Bool) : ref06Next_J0 (n + 1) s0 s1 s22 =
  forkB s22
  (some ([] : List Int))
  (if 0 ≤ s1 ∧ s1 < ((s0.length : Nat) : Int) then (forkB (((s0.getD s1.toNat dIns).Op) == (28 : Int))
   (some ([] : List Int))
   (forkB (((s0.getD s1.toNat dIns).Op) == (16 : Int))
    (some ([IntKind.i64.wrap ((IntKind.i64.wrap (s1 + (1 : Int))) + ((s0.getD s1.toNat dIns).Off))] : List Int))
    (obind (ref06Cond BIG (s0.getD s1.toNat dIns)) fun y1 =>
     forkB y1
     (ref06Next_J1 n s1 (IntKind.i64.wrap ((IntKind.i64.wrap (s1 + (1 : Int))) + ((s0.getD s1.toNat dIns).Off))) (decide ((IntKind.i64.wrap ((IntKind.i64.wrap (s1 + (1 : Int))) + ((s0.getD s1.toNat dIns).Off))) < (IntKind.i64.wrap (s1 + (1 : Int))))) ((s0.getD s1.toNat dIns).Op) ((s0.getD s1.toNat dIns).Narrow) ((s0.getD s1.toNat dIns).Dst) ((s0.getD s1.toNat dIns).Src) ((s0.getD s1.toNat dIns).UseImm) ((s0.getD s1.toNat dIns).Off) ((s0.getD s1.toNat dIns).Imm) ((s0.getD s1.toNat dIns).Size))
     (ref06Next_J1 n s1 (IntKind.i64.wrap ((IntKind.i64.wrap (s1 + (1 : Int))) + ((s0.getD s1.toNat dIns).Off))) false ((s0.getD s1.toNat dIns).Op) ((s0.getD s1.toNat dIns).Narrow) ((s0.getD s1.toNat dIns).Dst) ((s0.getD s1.toNat dIns).Src) ((s0.getD s1.toNat dIns).UseImm) ((s0.getD s1.toNat dIns).Off) ((s0.getD s1.toNat dIns).Imm) ((s0.getD s1.toNat dIns).Size))))) else none) := by kernel_rfl
theorem ref06Next_J1_eq (n : Nat) (s1 : Int) (s6 : Int) (s42 : Bool) (b0_0 : Int) (b0_1 : Bool) (b0_2 : Int) (b0_3 : Int) (b0_4 : Bool) (b0_5 : Int) (b0_6 : Int) (b0_7 : Int) : ref06Next_J1 (n + 1) s1 s6 s42 b0_0 b0_1 b0_2 b0_3 b0_4 b0_5 b0_6 b0_7 =
  forkB s42
  (some ([s6, IntKind.i64.wrap (s1 + (1 : Int))] : List Int))
  (obind (ref06Cond BIG (⟨b0_0, b0_1, b0_2, b0_3, b0_4, b0_5, b0_6, b0_7⟩ : Ins)) fun y1 =>
   forkB y1
   (ref06Next_J2 n s1 s6 (decide (s6 > (IntKind.i64.wrap (s1 + (1 : Int))))))
   (ref06Next_J2 n s1 s6 false)) := by kernel_rfl
theorem ref06Next_J2_eq (n : Nat) (s1 : Int) (s6 : Int) (s55 : Bool) : ref06Next_J2 (n + 1) s1 s6 s55 =
  forkB s55
  (some ([IntKind.i64.wrap (s1 + (1 : Int)), s6] : List Int))
  (some ([IntKind.i64.wrap (s1 + (1 : Int))] : List Int)) := by kernel_rfl
noncomputable def ref06Next_sp : FnSpec TT := ⟨[.val (.list (.user 0)), .val (.int .i64)], [.own 3 (.int .i64)], fun x => ref06Next BIG x.1 x.2⟩
theorem ref06Next_ok : FnOk TT Try.prog 19 ref06Next_sp := fnOk_of (C := ref06Next_C) (by kernel_rfl) ref06Next_env Try.func19 (show Try.f19.body = some (bodyOf Try.f19) by kernel_rfl) (by kernel_rfl) (by kernel_rfl) (cuts := ref06Next_cuts) fun x y h => ⟨BIG, h⟩
noncomputable def ref06Jumps_C : Ctx TT := ⟨tyOf, [(43, ref06Cond_sp.toCall)], 0, []⟩
theorem ref06Jumps_env : EnvOk TT Try.prog ref06Jumps_C.E := envG (fnCall_ok ref06Cond_ok) (envNil)
def ref06Jumps_cuts : List (Pos × Cut) := []
noncomputable def ref06Jumps (n : Nat) (x0 : Ins) : Option (Bool) := topF TT Try.prog ref06Jumps_C ref06Jumps_cuts Try.f16 (bodyOf Try.f16) [.val (.user 0)] [.val (.bool)] n x0
theorem ref06Jumps_eq (n : Nat) (x0 : Ins) : ref06Jumps n x0 =
  forkB (x0.Op == (16 : Int))
  (some true)
  (obind (ref06Cond BIG x0) fun y1 =>
   some y1) := by kernel_rfl
noncomputable def ref06Jumps_sp : FnSpec TT := ⟨[.val (.user 0)], [.val (.bool)], fun x => ref06Jumps BIG x⟩
theorem ref06Jumps_ok : FnOk TT Try.prog 16 ref06Jumps_sp := fnOk_of (C := ref06Jumps_C) (by kernel_rfl) ref06Jumps_env Try.func16 (show Try.f16.body = some (bodyOf Try.f16) by kernel_rfl) (by kernel_rfl) (by kernel_rfl) (cuts := ref06Jumps_cuts) fun x y h => ⟨BIG, h⟩
noncomputable def ref08_come_C : Ctx TT := ⟨tyOf, [(19, ref06Next_sp.toCall)], 0, []⟩
theorem ref08_come_env : EnvOk TT Try.prog ref08_come_C.E := envG (fnCall_ok ref06Next_ok) (envNil)
def ref08_come_cuts : List (Pos × Cut) := [([false, true, false, true, true, true], ⟨[0, 3, 4], [], false, []⟩), ([false, true, true, false, true, false, false, true, false, true, true, true], ⟨[0, 3, 4, 5], [], false, []⟩), ([true, false, false, true, true, false, true, false, false, true, false, true, true, true], ⟨[0, 3, 4, 5], [], false, []⟩), ([false, true, true, true, false, false, true, false, false, true, true, false, true, false, false, true, false, true, true, true], ⟨[0, 3, 4, 5, 6, 7], [], false, []⟩), ([true, false, false, true, true, true, false, false, true, false, false, true, true, false, true, false, false, true, false, true, true, true], ⟨[0, 3, 4, 5, 6, 7], [], false, []⟩)]
noncomputable def ref08_come (n : Nat) (x0 : List Ins) : Option (List Bool) := topF TT Try.prog ref08_come_C ref08_come_cuts Try.f59 (bodyOf Try.f59) [.val (.list (.user 0))] [.own 4 (.bool)] n x0
noncomputable def ref08_come_L0 (n : Nat) (s0 : List Ins) (s4 : Bool) (r0 : List Bool) : Option (List Bool) := cutF TT Try.prog ref08_come_C ref08_come_cuts Try.f59 (bodyOf Try.f59) [.val (.list (.user 0))] [.own 4 (.bool)] n [false, true, false, true, true, true] ⟨[(0, .cell ⟨.list (.user 0), s0⟩), (3, .own 0), (4, .cell ⟨.bool, s4⟩)], [.row 4 (.bool) r0]⟩
noncomputable def ref08_come_L1 (n : Nat) (s0 : List Ins) (s4 : Bool) (s5 : Int) (r0 : List Bool) : Option (List Bool) := cutF TT Try.prog ref08_come_C ref08_come_cuts Try.f59 (bodyOf Try.f59) [.val (.list (.user 0))] [.own 4 (.bool)] n [false, true, true, false, true, false, false, true, false, true, true, true] ⟨[(0, .cell ⟨.list (.user 0), s0⟩), (3, .own 0), (4, .cell ⟨.bool, s4⟩), (5, .cell ⟨.int .i64, s5⟩)], [.row 4 (.bool) r0]⟩
noncomputable def ref08_come_J2 (n : Nat) (s0 : List Ins) (s4 : Bool) (s5 : Int) (r0 : List Bool) : Option (List Bool) := cutF TT Try.prog ref08_come_C ref08_come_cuts Try.f59 (bodyOf Try.f59) [.val (.list (.user 0))] [.own 4 (.bool)] n [true, false, false, true, true, false, true, false, false, true, false, true, true, true] ⟨[(0, .cell ⟨.list (.user 0), s0⟩), (3, .own 0), (4, .cell ⟨.bool, s4⟩), (5, .cell ⟨.int .i64, s5⟩)], [.row 4 (.bool) r0]⟩
noncomputable def ref08_come_L3 (n : Nat) (s0 : List Ins) (s4 : Bool) (s5 : Int) (s7 : Int) (r0 : List Bool) (r1 : List Int) : Option (List Bool) := cutF TT Try.prog ref08_come_C ref08_come_cuts Try.f59 (bodyOf Try.f59) [.val (.list (.user 0))] [.own 4 (.bool)] n [false, true, true, true, false, false, true, false, false, true, true, false, true, false, false, true, false, true, true, true] ⟨[(0, .cell ⟨.list (.user 0), s0⟩), (3, .own 0), (4, .cell ⟨.bool, s4⟩), (5, .cell ⟨.int .i64, s5⟩), (6, .own 1), (7, .cell ⟨.int .i64, s7⟩)], [.row 4 (.bool) r0, .row 3 (.int .i64) r1]⟩
noncomputable def ref08_come_J4 (n : Nat) (s0 : List Ins) (s4 : Bool) (s5 : Int) (s7 : Int) (r0 : List Bool) (r1 : List Int) : Option (List Bool) := cutF TT Try.prog ref08_come_C ref08_come_cuts Try.f59 (bodyOf Try.f59) [.val (.list (.user 0))] [.own 4 (.bool)] n [true, false, false, true, true, true, false, false, true, false, false, true, true, false, true, false, false, true, false, true, true, true] ⟨[(0, .cell ⟨.list (.user 0), s0⟩), (3, .own 0), (4, .cell ⟨.bool, s4⟩), (5, .cell ⟨.int .i64, s5⟩), (6, .own 1), (7, .cell ⟨.int .i64, s7⟩)], [.row 4 (.bool) r0, .row 3 (.int .i64) r1]⟩
theorem ref08_come_eq (n : Nat) (x0 : List Ins) : ref08_come n x0 =
  if 0 ≤ ((x0.length : Nat) : Int) ∧ ((x0.length : Nat) : Int) ≤ ((x0.length : Nat) : Int) ∧ 1 * (((x0.length : Nat) : Int).toNat) ≤ 281474976710656 ∧ ((x0.length : Nat) : Int) ≤ 9223372036854775807 then (if 0 ≤ (0 : Int) ∧ (0 : Int) < (((List.replicate (((x0.length : Nat) : Int).toNat) false).length : Nat) : Int) then (ref08_come_L0 n x0 true ((List.replicate (((x0.length : Nat) : Int).toNat) false).set 0 true)) else none) else none := by kernel_rfl
theorem ref08_come_L0_eq (n : Nat) (s0 : List Ins) (s4 : Bool) (r0 : List Bool) : ref08_come_L0 (n + 1) s0 s4 r0 =
  forkB s4
  (ref08_come_L1 n s0 false (0 : Int) r0)
  (some r0) := by kernel_rfl
theorem ref08_come_L1_eq (n : Nat) (s0 : List Ins) (s4 : Bool) (s5 : Int) (r0 : List Bool) : ref08_come_L1 (n + 1) s0 s4 s5 r0 =
  forkB (decide (s5 < ((s0.length : Nat) : Int)))
  (if 0 ≤ s5 ∧ s5 < ((r0.length : Nat) : Int) then (forkB (!(r0.getD s5.toNat false))
   (ref08_come_J2 n s0 s4 s5 r0)
   (obind (ref06Next BIG s0 s5) fun y1 =>
    ref08_come_L3 n s0 s4 s5 (0 : Int) r0 y1)) else none)
  (ref08_come_L0 n s0 s4 r0) := by kernel_rfl
theorem ref08_come_J2_eq (n : Nat) (s0 : List Ins) (s4 : Bool) (s5 : Int) (r0 : List Bool) : ref08_come_J2 (n + 1) s0 s4 s5 r0 =
  ref08_come_L1 n s0 s4 (IntKind.i64.wrap (s5 + (1 : Int))) r0 := by kernel_rfl
theorem ref08_come_L3_eq (n : Nat) (s0 : List Ins) (s4 : Bool) (s5 : Int) (s7 : Int) (r0 : List Bool) (r1 : List Int) : ref08_come_L3 (n + 1) s0 s4 s5 s7 r0 r1 =
  forkB (decide (s7 < ((r1.length : Nat) : Int)))
  (if 0 ≤ s7 ∧ s7 < ((r1.length : Nat) : Int) then (if 0 ≤ r1.getD s7.toNat (0 : Int) ∧ r1.getD s7.toNat (0 : Int) < ((r0.length : Nat) : Int) then (forkB (!(r0.getD ((r1.getD s7.toNat (0 : Int)).toNat) false))
   (if 0 ≤ s7 ∧ s7 < ((r1.length : Nat) : Int) then (if 0 ≤ r1.getD s7.toNat (0 : Int) ∧ r1.getD s7.toNat (0 : Int) < ((r0.length : Nat) : Int) then (ref08_come_J4 n s0 true s5 s7 (r0.set ((r1.getD s7.toNat (0 : Int)).toNat) true) r1) else none) else none)
   (ref08_come_J4 n s0 s4 s5 s7 r0 r1)) else none) else none)
  (ref08_come_J2 n s0 s4 s5 r0) := by kernel_rfl
theorem ref08_come_J4_eq (n : Nat) (s0 : List Ins) (s4 : Bool) (s5 : Int) (s7 : Int) (r0 : List Bool) (r1 : List Int) : ref08_come_J4 (n + 1) s0 s4 s5 s7 r0 r1 =
  ref08_come_L3 n s0 s4 s5 (IntKind.i64.wrap (s7 + (1 : Int))) r0 r1 := by kernel_rfl
noncomputable def ref08_come_sp : FnSpec TT := ⟨[.val (.list (.user 0))], [.own 4 (.bool)], fun x => ref08_come BIG x⟩
theorem ref08_come_ok : FnOk TT Try.prog 59 ref08_come_sp := fnOk_of (C := ref08_come_C) (by kernel_rfl) ref08_come_env Try.func59 (show Try.f59.body = some (bodyOf Try.f59) by kernel_rfl) (by kernel_rfl) (by kernel_rfl) (cuts := ref08_come_cuts) fun x y h => ⟨BIG, h⟩
noncomputable def ref08Check_C : Ctx TT := ⟨tyOf, [(14, ref06Right_sp.toCall), (16, ref06Jumps_sp.toCall), (59, ref08_come_sp.toCall)], 0, []⟩
theorem ref08Check_env : EnvOk TT Try.prog ref08Check_C.E := envG (fnCall_ok ref06Right_ok) (envG (fnCall_ok ref06Jumps_ok) (envG (fnCall_ok ref08_come_ok) (envNil)))
def ref08Check_cuts : List (Pos × Cut) := [([false, true, false, true, true, true], ⟨[0, 2, 3], [], false, []⟩), ([false, true, false, true, true, true, true], ⟨[0, 2, 4], [], false, []⟩), ([false, false, false, true, false, false, true, false, true, true, true, true], ⟨[0, 2, 4, 48], [], false, []⟩), ([true, false, false, true, false, false, true, false, true, true, true, true], ⟨[0, 2, 4, 68], [], false, []⟩), ([false, true, true, true, true, true, true], ⟨[0, 2, 5, 87], [], false, []⟩), ([false, true, false, true, true, true, true, true, true, true, true], ⟨[0, 2, 6, 7], [], false, []⟩)]
noncomputable def ref08Check (n : Nat) (x0 : List Ins) : Option (Fault) := topF TT Try.prog ref08Check_C ref08Check_cuts Try.f33 (bodyOf Try.f33) [.val (.list (.user 0))] [.val (.user 1)] n x0
noncomputable def ref08Check_L0 (n : Nat) (s0 : List Ins) (s3 : Int) (b0_0 : Int) (b0_1 : Int) : Option (Fault) := cutF TT Try.prog ref08Check_C ref08Check_cuts Try.f33 (bodyOf Try.f33) [.val (.list (.user 0))] [.val (.user 1)] n [false, true, false, true, true, true] ⟨[(0, .cell ⟨.list (.user 0), s0⟩), (2, .ptr 0 0), (3, .cell ⟨.int .i64, s3⟩)], [.blk 47 [.cell ⟨.int .i64, b0_0⟩, .cell ⟨.int .i64, b0_1⟩]]⟩
noncomputable def ref08Check_L1 (n : Nat) (s0 : List Ins) (s4 : Int) (b0_0 : Int) (b0_1 : Int) : Option (Fault) := cutF TT Try.prog ref08Check_C ref08Check_cuts Try.f33 (bodyOf Try.f33) [.val (.list (.user 0))] [.val (.user 1)] n [false, true, false, true, true, true, true] ⟨[(0, .cell ⟨.list (.user 0), s0⟩), (2, .ptr 0 0), (4, .cell ⟨.int .i64, s4⟩)], [.blk 47 [.cell ⟨.int .i64, b0_0⟩, .cell ⟨.int .i64, b0_1⟩]]⟩
noncomputable def ref08Check_J2 (n : Nat) (s0 : List Ins) (s4 : Int) (s48 : Bool) (b0_0 : Int) (b0_1 : Int) : Option (Fault) := cutF TT Try.prog ref08Check_C ref08Check_cuts Try.f33 (bodyOf Try.f33) [.val (.list (.user 0))] [.val (.user 1)] n [false, false, false, true, false, false, true, false, true, true, true, true] ⟨[(0, .cell ⟨.list (.user 0), s0⟩), (2, .ptr 0 0), (4, .cell ⟨.int .i64, s4⟩), (48, .cell ⟨.bool, s48⟩)], [.blk 47 [.cell ⟨.int .i64, b0_0⟩, .cell ⟨.int .i64, b0_1⟩]]⟩
noncomputable def ref08Check_J4 (n : Nat) (s0 : List Ins) (s5 : Int) (s87 : Bool) (b0_0 : Int) (b0_1 : Int) : Option (Fault) := cutF TT Try.prog ref08Check_C ref08Check_cuts Try.f33 (bodyOf Try.f33) [.val (.list (.user 0))] [.val (.user 1)] n [false, true, true, true, true, true, true] ⟨[(0, .cell ⟨.list (.user 0), s0⟩), (2, .ptr 0 0), (5, .cell ⟨.int .i64, s5⟩), (87, .cell ⟨.bool, s87⟩)], [.blk 47 [.cell ⟨.int .i64, b0_0⟩, .cell ⟨.int .i64, b0_1⟩]]⟩
noncomputable def ref08Check_J3 (n : Nat) (s0 : List Ins) (s4 : Int) (s68 : Bool) (b0_0 : Int) (b0_1 : Int) : Option (Fault) := cutF TT Try.prog ref08Check_C ref08Check_cuts Try.f33 (bodyOf Try.f33) [.val (.list (.user 0))] [.val (.user 1)] n [true, false, false, true, false, false, true, false, true, true, true, true] ⟨[(0, .cell ⟨.list (.user 0), s0⟩), (2, .ptr 0 0), (4, .cell ⟨.int .i64, s4⟩), (68, .cell ⟨.bool, s68⟩)], [.blk 47 [.cell ⟨.int .i64, b0_0⟩, .cell ⟨.int .i64, b0_1⟩]]⟩
noncomputable def ref08Check_L5 (n : Nat) (s0 : List Ins) (s7 : Int) (b0_0 : Int) (b0_1 : Int) (r1 : List Bool) : Option (Fault) := cutF TT Try.prog ref08Check_C ref08Check_cuts Try.f33 (bodyOf Try.f33) [.val (.list (.user 0))] [.val (.user 1)] n [false, true, false, true, true, true, true, true, true, true, true] ⟨[(0, .cell ⟨.list (.user 0), s0⟩), (2, .ptr 0 0), (6, .own 1), (7, .cell ⟨.int .i64, s7⟩)], [.blk 47 [.cell ⟨.int .i64, b0_0⟩, .cell ⟨.int .i64, b0_1⟩], .row 4 (.bool) r1]⟩
theorem ref08Check_eq (n : Nat) (x0 : List Ins) : ref08Check n x0 =
  forkB (((x0.length : Nat) : Int) == (0 : Int))
  (some (⟨(6 : Int), (0 : Int)⟩ : Fault))
  (forkB (decide (((x0.length : Nat) : Int) > (4096 : Int)))
   (some (⟨(3 : Int), (0 : Int)⟩ : Fault))
   (ref08Check_L0 n x0 (0 : Int) (0 : Int) (0 : Int))) := by kernel_rfl
theorem ref08Check_L0_eq (n : Nat) (s0 : List Ins) (s3 : Int) (b0_0 : Int) (b0_1 : Int) : ref08Check_L0 (n + 1) s0 s3 b0_0 b0_1 =
  forkB (decide (s3 < ((s0.length : Nat) : Int)))
  (if 0 ≤ s3 ∧ s3 < ((s0.length : Nat) : Int) then (obind (ref06Right BIG (s0.getD s3.toNat dIns)) fun y1 =>
   forkB (!y1)
   (some (⟨(4 : Int), s3⟩ : Fault))
   (ref08Check_L0 n s0 (IntKind.i64.wrap (s3 + (1 : Int))) b0_0 b0_1)) else none)
  (ref08Check_L1 n s0 (0 : Int) b0_0 b0_1) := by kernel_rfl
theorem ref08Check_L1_eq (n : Nat) (s0 : List Ins) (s4 : Int) (b0_0 : Int) (b0_1 : Int) : ref08Check_L1 (n + 1) s0 s4 b0_0 b0_1 =
  forkB (decide (s4 < ((s0.length : Nat) : Int)))
  (if 0 ≤ s4 ∧ s4 < ((s0.length : Nat) : Int) then (obind (ref06Jumps BIG (s0.getD s4.toNat dIns)) fun y1 =>
   forkB y1
   (if 0 ≤ s4 ∧ s4 < ((s0.length : Nat) : Int) then (ref08Check_J2 n s0 s4 (decide (((s0.getD s4.toNat dIns).Off) < (0 : Int))) b0_0 b0_1) else none)
   (ref08Check_J2 n s0 s4 false b0_0 b0_1)) else none)
  (if 0 ≤ IntKind.i64.wrap (((s0.length : Nat) : Int) - (1 : Int)) ∧ IntKind.i64.wrap (((s0.length : Nat) : Int) - (1 : Int)) < ((s0.length : Nat) : Int) then (forkB (((s0.getD ((IntKind.i64.wrap (((s0.length : Nat) : Int) - (1 : Int))).toNat) dIns).Op) != (28 : Int))
   (if 0 ≤ IntKind.i64.wrap (((s0.length : Nat) : Int) - (1 : Int)) ∧ IntKind.i64.wrap (((s0.length : Nat) : Int) - (1 : Int)) < ((s0.length : Nat) : Int) then (ref08Check_J4 n s0 (IntKind.i64.wrap (((s0.length : Nat) : Int) - (1 : Int))) (((s0.getD ((IntKind.i64.wrap (((s0.length : Nat) : Int) - (1 : Int))).toNat) dIns).Op) != (16 : Int)) b0_0 b0_1) else none)
   (ref08Check_J4 n s0 (IntKind.i64.wrap (((s0.length : Nat) : Int) - (1 : Int))) false b0_0 b0_1)) else none) := by kernel_rfl
theorem ref08Check_J2_eq (n : Nat) (s0 : List Ins) (s4 : Int) (s48 : Bool) (b0_0 : Int) (b0_1 : Int) : ref08Check_J2 (n + 1) s0 s4 s48 b0_0 b0_1 =
  forkB s48
  (some (⟨(100 : Int), s4⟩ : Fault))
  (if 0 ≤ s4 ∧ s4 < ((s0.length : Nat) : Int) then (obind (ref06Jumps BIG (s0.getD s4.toNat dIns)) fun y1 =>
   forkB y1
   (if 0 ≤ s4 ∧ s4 < ((s0.length : Nat) : Int) then (ref08Check_J3 n s0 s4 (decide ((IntKind.i64.wrap ((IntKind.i64.wrap (s4 + (1 : Int))) + ((s0.getD s4.toNat dIns).Off))) ≥ ((s0.length : Nat) : Int))) b0_0 b0_1) else none)
   (ref08Check_J3 n s0 s4 false b0_0 b0_1)) else none) := by kernel_rfl
theorem ref08Check_J4_eq (n : Nat) (s0 : List Ins) (s5 : Int) (s87 : Bool) (b0_0 : Int) (b0_1 : Int) : ref08Check_J4 (n + 1) s0 s5 s87 b0_0 b0_1 =
  forkB s87
  (some (⟨(102 : Int), s5⟩ : Fault))
  (obind (ref08_come BIG s0) fun y1 =>
   ref08Check_L5 n s0 (0 : Int) b0_0 b0_1 y1) := by kernel_rfl
theorem ref08Check_J3_eq (n : Nat) (s0 : List Ins) (s4 : Int) (s68 : Bool) (b0_0 : Int) (b0_1 : Int) : ref08Check_J3 (n + 1) s0 s4 s68 b0_0 b0_1 =
  forkB s68
  (some (⟨(101 : Int), s4⟩ : Fault))
  (ref08Check_L1 n s0 (IntKind.i64.wrap (s4 + (1 : Int))) b0_0 b0_1) := by kernel_rfl
theorem ref08Check_L5_eq (n : Nat) (s0 : List Ins) (s7 : Int) (b0_0 : Int) (b0_1 : Int) (r1 : List Bool) : ref08Check_L5 (n + 1) s0 s7 b0_0 b0_1 r1 =
  forkB (decide (s7 < ((s0.length : Nat) : Int)))
  (if 0 ≤ s7 ∧ s7 < ((r1.length : Nat) : Int) then (forkB (!(r1.getD s7.toNat false))
   (some (⟨(103 : Int), s7⟩ : Fault))
   (ref08Check_L5 n s0 (IntKind.i64.wrap (s7 + (1 : Int))) b0_0 b0_1 r1)) else none)
  (some (⟨(0 : Int), (0 : Int)⟩ : Fault)) := by kernel_rfl
noncomputable def ref08Check_sp : FnSpec TT := ⟨[.val (.list (.user 0))], [.val (.user 1)], fun x => ref08Check BIG x⟩
theorem ref08Check_ok : FnOk TT Try.prog 33 ref08Check_sp := fnOk_of (C := ref08Check_C) (by kernel_rfl) ref08Check_env Try.func33 (show Try.f33.body = some (bodyOf Try.f33) by kernel_rfl) (by kernel_rfl) (by kernel_rfl) (cuts := ref08Check_cuts) fun x y h => ⟨BIG, h⟩
end Go.X
