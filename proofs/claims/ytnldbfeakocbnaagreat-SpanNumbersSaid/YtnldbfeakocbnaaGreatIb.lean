/- What the document says of spans. -/
import Derived.Test.YtnldbfeakocbnaaGreatIa
namespace Go.X
open Go.RowKit Go.V Go.Proofs
noncomputable def ref11Right_C : Ctx TT := ⟨tyOf, [], 0, [], layOf⟩
theorem ref11Right_env : EnvOk TT Tryz.prog ref11Right_C.E := envNil
def ref11Right_cuts : List (Pos × Cut) := []
noncomputable def ref11Right (n : Nat) (x0 : Span) : Option (Bool) := topF TT Tryz.prog ref11Right_C ref11Right_cuts Tryz.f24 (bodyOf Tryz.f24) ⟨[], []⟩ [.val (.user 0)] [.val (.bool)] n x0
theorem ref11Right_eq (n : Nat) (x0 : Span) : ref11Right n x0 =
  some (decide (x0.Lo ≤ x0.Hi)) := by kernel_rfl
noncomputable def ref11Right_sp : FnSpec TT := ⟨[.val (.user 0)], [.val (.bool)], fun x => ref11Right BIG x⟩
theorem ref11Right_ok : FnOk TT Tryz.prog 24 ref11Right_sp := fnOk_of (C := ref11Right_C) (by kernel_rfl) ref11Right_env Tryz.func24 (show Tryz.f24.body = some (bodyOf Tryz.f24) by kernel_rfl) (by kernel_rfl) (by kernel_rfl) (cuts := ref11Right_cuts) fun x y h => ⟨BIG, h⟩
noncomputable def ref11_most_C : Ctx TT := ⟨tyOf, [], 0, [], layOf⟩
theorem ref11_most_env : EnvOk TT Tryz.prog ref11_most_C.E := envNil
def ref11_most_cuts : List (Pos × Cut) := []
noncomputable def ref11_most (n : Nat) (x0 : Bool) : Option (Int) := topF TT Tryz.prog ref11_most_C ref11_most_cuts Tryz.f34 (bodyOf Tryz.f34) ⟨[], []⟩ [.val (.bool)] [.val (.int .u64)] n x0
theorem ref11_most_eq (n : Nat) (x0 : Bool) : ref11_most n x0 =
  forkB x0
  (some (4294967295 : Int))
  (some (18446744073709551615 : Int)) := by kernel_rfl
noncomputable def ref11_most_sp : FnSpec TT := ⟨[.val (.bool)], [.val (.int .u64)], fun x => ref11_most BIG x⟩
theorem ref11_most_ok : FnOk TT Tryz.prog 34 ref11_most_sp := fnOk_of (C := ref11_most_C) (by kernel_rfl) ref11_most_env Tryz.func34 (show Tryz.f34.body = some (bodyOf Tryz.f34) by kernel_rfl) (by kernel_rfl) (by kernel_rfl) (cuts := ref11_most_cuts) fun x y h => ⟨BIG, h⟩
noncomputable def ref11All_C : Ctx TT := ⟨tyOf, [(34, ref11_most_sp.toCall)], 0, [], layOf⟩
theorem ref11All_env : EnvOk TT Tryz.prog ref11All_C.E := envG (fnCall_ok ref11_most_ok) (envNil)
def ref11All_cuts : List (Pos × Cut) := []
noncomputable def ref11All (n : Nat) (x0 : Bool) : Option (Span) := topF TT Tryz.prog ref11All_C ref11All_cuts Tryz.f28 (bodyOf Tryz.f28) ⟨[], []⟩ [.val (.bool)] [.val (.user 0)] n x0
theorem ref11All_eq (n : Nat) (x0 : Bool) : ref11All n x0 =
  obind (ref11_most BIG x0) fun y1 =>
  some (⟨(0 : Int), y1⟩ : Span) := by kernel_rfl
noncomputable def ref11All_sp : FnSpec TT := ⟨[.val (.bool)], [.val (.user 0)], fun x => ref11All BIG x⟩
theorem ref11All_ok : FnOk TT Tryz.prog 28 ref11All_sp := fnOk_of (C := ref11All_C) (by kernel_rfl) ref11All_env Tryz.func28 (show Tryz.f28.body = some (bodyOf Tryz.f28) by kernel_rfl) (by kernel_rfl) (by kernel_rfl) (cuts := ref11All_cuts) fun x y h => ⟨BIG, h⟩
noncomputable def ref11_cut_C : Ctx TT := ⟨tyOf, [(28, ref11All_sp.toCall)], 0, [], layOf⟩
theorem ref11_cut_env : EnvOk TT Tryz.prog ref11_cut_C.E := envG (fnCall_ok ref11All_ok) (envNil)
def ref11_cut_cuts : List (Pos × Cut) := []
noncomputable def ref11_cut (n : Nat) (x0 : Span) (x1 : Bool) : Option (Span) := topF TT Tryz.prog ref11_cut_C ref11_cut_cuts Tryz.f32 (bodyOf Tryz.f32) ⟨[], []⟩ [.val (.user 0), .val (.bool)] [.val (.user 0)] n (x0, x1)
theorem ref11_cut_eq (n : Nat) (x0 : Span) (x1 : Bool) : ref11_cut n x0 x1 =
  forkB (!x1)
  (some x0)
  (forkB ((sShr .u64 x0.Lo (32 : Int)) != (sShr .u64 x0.Hi (32 : Int)))
   (obind (ref11All BIG true) fun y1 =>
    some y1)
   (some (⟨bAnd .u64 x0.Lo (4294967295 : Int), bAnd .u64 x0.Hi (4294967295 : Int)⟩ : Span))) := by kernel_rfl
noncomputable def ref11_cut_sp : FnSpec TT := ⟨[.val (.user 0), .val (.bool)], [.val (.user 0)], fun x => ref11_cut BIG x.1 x.2⟩
theorem ref11_cut_ok : FnOk TT Tryz.prog 32 ref11_cut_sp := fnOk_of (C := ref11_cut_C) (by kernel_rfl) ref11_cut_env Tryz.func32 (show Tryz.f32.body = some (bodyOf Tryz.f32) by kernel_rfl) (by kernel_rfl) (by kernel_rfl) (cuts := ref11_cut_cuts) fun x y h => ⟨BIG, h⟩
noncomputable def ref11_sums_C : Ctx TT := ⟨tyOf, [], 0, [(7, 1), (9, 1), (12, 1)], layOf⟩
theorem ref11_sums_env : EnvOk TT Tryz.prog ref11_sums_C.E := envNil
def ref11_sums_cuts : List (Pos × Cut) := [([true, true, false, true, false, true, false, true], ⟨[8, 9], [], false, []⟩), ([false, true, true, true, false, true, false, true], ⟨[8, 9], [], false, []⟩), ([false, true, true, true, true, true, false, true, false, true], ⟨[8, 9], [], false, []⟩)]
noncomputable def ref11_sums (n : Nat) (x0 : Int) (x1 : Int) (x2 : Span) (x3 : Span) : Option (Span × Bool) := topF TT Tryz.prog ref11_sums_C ref11_sums_cuts Tryz.f33 (bodyOf Tryz.f33) ⟨[], []⟩ [.val (.int .u8), .val (.int .u64), .val (.user 0), .val (.user 0)] [.val (.user 0), .val (.bool)] n (x0, x1, x2, x3)
noncomputable def ref11_sums_J0 (n : Nat) (s9 : Bool) (b0_0 : Int) (b0_1 : Int) : Option (Span × Bool) := cutF TT Tryz.prog ref11_sums_C ref11_sums_cuts Tryz.f33 (bodyOf Tryz.f33) ⟨[], []⟩ [.val (.int .u8), .val (.int .u64), .val (.user 0), .val (.user 0)] [.val (.user 0), .val (.bool)] n [true, true, false, true, false, true, false, true] ⟨[(8, .ptr 0 0), (9, .cell ⟨.bool, s9⟩)], [.blk 27 [.cell ⟨.int .u64, b0_0⟩, .cell ⟨.int .u64, b0_1⟩]]⟩
noncomputable def ref11_sums_J1 (n : Nat) (s9 : Bool) (b0_0 : Int) (b0_1 : Int) : Option (Span × Bool) := cutF TT Tryz.prog ref11_sums_C ref11_sums_cuts Tryz.f33 (bodyOf Tryz.f33) ⟨[], []⟩ [.val (.int .u8), .val (.int .u64), .val (.user 0), .val (.user 0)] [.val (.user 0), .val (.bool)] n [false, true, true, true, false, true, false, true] ⟨[(8, .ptr 0 0), (9, .cell ⟨.bool, s9⟩)], [.blk 27 [.cell ⟨.int .u64, b0_0⟩, .cell ⟨.int .u64, b0_1⟩]]⟩
noncomputable def ref11_sums_J2 (n : Nat) (s9 : Bool) (b0_0 : Int) (b0_1 : Int) : Option (Span × Bool) := cutF TT Tryz.prog ref11_sums_C ref11_sums_cuts Tryz.f33 (bodyOf Tryz.f33) ⟨[], []⟩ [.val (.int .u8), .val (.int .u64), .val (.user 0), .val (.user 0)] [.val (.user 0), .val (.bool)] n [false, true, true, true, true, true, false, true, false, true] ⟨[(8, .ptr 0 0), (9, .cell ⟨.bool, s9⟩)], [.blk 27 [.cell ⟨.int .u64, b0_0⟩, .cell ⟨.int .u64, b0_1⟩]]⟩
theorem ref11_sums_eq (n : Nat) (x0 : Int) (x1 : Int) (x2 : Span) (x3 : Span) : ref11_sums n x0 x1 x2 x3 =
  forkB (x0 == (1 : Int))
  (forkB (decide (x3.Hi ≤ (IntKind.u64.wrap (x1 - x2.Hi))))
   (ref11_sums_J0 n true (bAnd .u64 (IntKind.u64.wrap (x2.Lo + x3.Lo)) x1) (bAnd .u64 (IntKind.u64.wrap (x2.Hi + x3.Hi)) x1))
   (ref11_sums_J0 n (decide (x3.Lo > (IntKind.u64.wrap (x1 - x2.Lo)))) (bAnd .u64 (IntKind.u64.wrap (x2.Lo + x3.Lo)) x1) (bAnd .u64 (IntKind.u64.wrap (x2.Hi + x3.Hi)) x1)))
  (forkB (x0 == (2 : Int))
   (forkB (decide (x2.Lo ≥ x3.Hi))
    (ref11_sums_J1 n true (bAnd .u64 (IntKind.u64.wrap (x2.Lo - x3.Hi)) x1) (bAnd .u64 (IntKind.u64.wrap (x2.Hi - x3.Lo)) x1))
    (ref11_sums_J1 n (decide (x2.Hi < x3.Lo)) (bAnd .u64 (IntKind.u64.wrap (x2.Lo - x3.Hi)) x1) (bAnd .u64 (IntKind.u64.wrap (x2.Hi - x3.Lo)) x1)))
   (forkB (x0 == (3 : Int))
    (forkB (x3.Hi == (0 : Int))
     (ref11_sums_J2 n true (IntKind.u64.wrap (x2.Lo * x3.Lo)) (IntKind.u64.wrap (x2.Hi * x3.Hi)))
     (if x3.Hi = 0 then none else (ref11_sums_J2 n (decide (x2.Hi ≤ (IntKind.u64.wrap (x1.tdiv x3.Hi)))) (IntKind.u64.wrap (x2.Lo * x3.Lo)) (IntKind.u64.wrap (x2.Hi * x3.Hi)))))
    (forkB (x2.Hi == (0 : Int))
     (some (x2, true))
     (some ((⟨bAnd .u64 (IntKind.u64.wrap ((0 : Int) - x2.Hi)) x1, bAnd .u64 (IntKind.u64.wrap ((0 : Int) - x2.Lo)) x1⟩ : Span), decide (x2.Lo > (0 : Int))))))) := by kernel_rfl
theorem ref11_sums_J0_eq (n : Nat) (s9 : Bool) (b0_0 : Int) (b0_1 : Int) : ref11_sums_J0 (n + 1) s9 b0_0 b0_1 =
  some ((⟨b0_0, b0_1⟩ : Span), s9) := by kernel_rfl
theorem ref11_sums_J1_eq (n : Nat) (s9 : Bool) (b0_0 : Int) (b0_1 : Int) : ref11_sums_J1 (n + 1) s9 b0_0 b0_1 =
  some ((⟨b0_0, b0_1⟩ : Span), s9) := by kernel_rfl
theorem ref11_sums_J2_eq (n : Nat) (s9 : Bool) (b0_0 : Int) (b0_1 : Int) : ref11_sums_J2 (n + 1) s9 b0_0 b0_1 =
  some ((⟨b0_0, b0_1⟩ : Span), s9) := by kernel_rfl
noncomputable def ref11_sums_sp : FnSpec TT := ⟨[.val (.int .u8), .val (.int .u64), .val (.user 0), .val (.user 0)], [.val (.user 0), .val (.bool)], fun x => ref11_sums BIG x.1 x.2.1 x.2.2.1 x.2.2.2⟩
theorem ref11_sums_ok : FnOk TT Tryz.prog 33 ref11_sums_sp := fnOk_of (C := ref11_sums_C) (by kernel_rfl) ref11_sums_env Tryz.func33 (show Tryz.f33.body = some (bodyOf Tryz.f33) by kernel_rfl) (by kernel_rfl) (by kernel_rfl) (cuts := ref11_sums_cuts) fun x y h => ⟨BIG, h⟩
noncomputable def ref11_parts_C : Ctx TT := ⟨tyOf, [], 0, [(3, 1)], layOf⟩
theorem ref11_parts_env : EnvOk TT Tryz.prog ref11_parts_C.E := envNil
def ref11_parts_cuts : List (Pos × Cut) := []
noncomputable def ref11_parts (n : Nat) (x0 : Int) (x1 : Span) (x2 : Span) : Option (Span) := topF TT Tryz.prog ref11_parts_C ref11_parts_cuts Tryz.f35 (bodyOf Tryz.f35) ⟨[], []⟩ [.val (.int .u8), .val (.user 0), .val (.user 0)] [.val (.user 0)] n (x0, x1, x2)
theorem ref11_parts_eq (n : Nat) (x0 : Int) (x1 : Span) (x2 : Span) : ref11_parts n x0 x1 x2 =
  forkB (x0 == (4 : Int))
  (if gMax x2.Hi (1 : Int) = 0 then none else (if gMax x2.Lo (1 : Int) = 0 then none else (some (⟨IntKind.u64.wrap (x1.Lo.tdiv (gMax x2.Hi (1 : Int))), IntKind.u64.wrap (x1.Hi.tdiv (gMax x2.Lo (1 : Int)))⟩ : Span))))
  (forkB (decide (x1.Hi < (gMax x2.Lo (1 : Int))))
   (some x1)
   (some (⟨(0 : Int), gMin x1.Hi (IntKind.u64.wrap ((gMax x2.Hi (1 : Int)) - (1 : Int)))⟩ : Span))) := by kernel_rfl
noncomputable def ref11_parts_sp : FnSpec TT := ⟨[.val (.int .u8), .val (.user 0), .val (.user 0)], [.val (.user 0)], fun x => ref11_parts BIG x.1 x.2.1 x.2.2⟩
theorem ref11_parts_ok : FnOk TT Tryz.prog 35 ref11_parts_sp := fnOk_of (C := ref11_parts_C) (by kernel_rfl) ref11_parts_env Tryz.func35 (show Tryz.f35.body = some (bodyOf Tryz.f35) by kernel_rfl) (by kernel_rfl) (by kernel_rfl) (cuts := ref11_parts_cuts) fun x y h => ⟨BIG, h⟩
noncomputable def ref11_single_C : Ctx TT := ⟨tyOf, [], 0, [], layOf⟩
theorem ref11_single_env : EnvOk TT Tryz.prog ref11_single_C.E := envNil
def ref11_single_cuts : List (Pos × Cut) := []
noncomputable def ref11_single (n : Nat) (x0 : Span) : Option (Bool) := topF TT Tryz.prog ref11_single_C ref11_single_cuts Tryz.f58 (bodyOf Tryz.f58) ⟨[], []⟩ [.val (.user 0)] [.val (.bool)] n x0
theorem ref11_single_eq (n : Nat) (x0 : Span) : ref11_single n x0 =
  some (x0.Lo == x0.Hi) := by kernel_rfl
noncomputable def ref11_single_sp : FnSpec TT := ⟨[.val (.user 0)], [.val (.bool)], fun x => ref11_single BIG x⟩
theorem ref11_single_ok : FnOk TT Tryz.prog 58 ref11_single_sp := fnOk_of (C := ref11_single_C) (by kernel_rfl) ref11_single_env Tryz.func58 (show Tryz.f58.body = some (bodyOf Tryz.f58) by kernel_rfl) (by kernel_rfl) (by kernel_rfl) (cuts := ref11_single_cuts) fun x y h => ⟨BIG, h⟩
noncomputable def ref11Of_C : Ctx TT := ⟨tyOf, [], 0, [], layOf⟩
theorem ref11Of_env : EnvOk TT Tryz.prog ref11Of_C.E := envNil
def ref11Of_cuts : List (Pos × Cut) := []
noncomputable def ref11Of (n : Nat) (x0 : Int) : Option (Span) := topF TT Tryz.prog ref11Of_C ref11Of_cuts Tryz.f26 (bodyOf Tryz.f26) ⟨[], []⟩ [.val (.int .u64)] [.val (.user 0)] n x0
theorem ref11Of_eq (n : Nat) (x0 : Int) : ref11Of n x0 =
  some (⟨x0, x0⟩ : Span) := by kernel_rfl
noncomputable def ref11Of_sp : FnSpec TT := ⟨[.val (.int .u64)], [.val (.user 0)], fun x => ref11Of BIG x⟩
theorem ref11Of_ok : FnOk TT Tryz.prog 26 ref11Of_sp := fnOk_of (C := ref11Of_C) (by kernel_rfl) ref11Of_env Tryz.func26 (show Tryz.f26.body = some (bodyOf Tryz.f26) by kernel_rfl) (by kernel_rfl) (by kernel_rfl) (cuts := ref11Of_cuts) fun x y h => ⟨BIG, h⟩
noncomputable def ref11_filled_C : Ctx TT := ⟨tyOf, [], 0, [], layOf⟩
theorem ref11_filled_env : EnvOk TT Tryz.prog ref11_filled_C.E := envNil
def ref11_filled_cuts : List (Pos × Cut) := [([false, false, true, true], ⟨[0, 3], [], false, []⟩)]
noncomputable def ref11_filled (n : Nat) (x0 : Int) : Option (Int) := topF TT Tryz.prog ref11_filled_C ref11_filled_cuts Tryz.f59 (bodyOf Tryz.f59) ⟨[], []⟩ [.val (.int .u64)] [.val (.int .u64)] n x0
noncomputable def ref11_filled_L0 (n : Nat) (s0 : Int) (s3 : Int) : Option (Int) := cutF TT Tryz.prog ref11_filled_C ref11_filled_cuts Tryz.f59 (bodyOf Tryz.f59) ⟨[], []⟩ [.val (.int .u64)] [.val (.int .u64)] n [false, false, true, true] ⟨[(0, .cell ⟨.int .u64, s0⟩), (3, .cell ⟨.int .u64, s3⟩)], []⟩
theorem ref11_filled_eq (n : Nat) (x0 : Int) : ref11_filled n x0 =
  ref11_filled_L0 n x0 (0 : Int) := by kernel_rfl
theorem ref11_filled_L0_eq (n : Nat) (s0 : Int) (s3 : Int) : ref11_filled_L0 (n + 1) s0 s3 =
  forkB (decide (s3 < s0))
  (ref11_filled_L0 n s0 (IntKind.u64.wrap ((IntKind.u64.wrap ((2 : Int) * s3)) + (1 : Int))))
  (some s3) := by kernel_rfl
noncomputable def ref11_filled_sp : FnSpec TT := ⟨[.val (.int .u64)], [.val (.int .u64)], fun x => ref11_filled BIG x⟩
theorem ref11_filled_ok : FnOk TT Tryz.prog 59 ref11_filled_sp := fnOk_of (C := ref11_filled_C) (by kernel_rfl) ref11_filled_env Tryz.func59 (show Tryz.f59.body = some (bodyOf Tryz.f59) by kernel_rfl) (by kernel_rfl) (by kernel_rfl) (cuts := ref11_filled_cuts) fun x y h => ⟨BIG, h⟩
noncomputable def ref11_logic_C : Ctx TT := ⟨tyOf, [(58, ref11_single_sp.toCall), (26, ref11Of_sp.toCall), (59, ref11_filled_sp.toCall)], 0, [(11, 1)], layOf⟩
theorem ref11_logic_env : EnvOk TT Tryz.prog ref11_logic_C.E := envG (fnCall_ok ref11_single_ok) (envG (fnCall_ok ref11Of_ok) (envG (fnCall_ok ref11_filled_ok) (envNil)))
def ref11_logic_cuts : List (Pos × Cut) := [([true], ⟨[0, 4, 5, 6, 7], [], false, []⟩), ([false, false, true, true], ⟨[0, 4, 5, 6, 7, 14], [], false, []⟩), ([true, true, false, false, true, true], ⟨[0, 4, 5, 6, 7, 26], [], false, []⟩)]
noncomputable def ref11_logic (n : Nat) (x0 : Int) (x1 : Span) (x2 : Span) : Option (Span) := topF TT Tryz.prog ref11_logic_C ref11_logic_cuts Tryz.f36 (bodyOf Tryz.f36) ⟨[], []⟩ [.val (.int .u8), .val (.user 0), .val (.user 0)] [.val (.user 0)] n (x0, x1, x2)
noncomputable def ref11_logic_J0 (n : Nat) (s0 : Int) (s7 : Bool) (b0_0 : Int) (b0_1 : Int) (b1_0 : Int) (b1_1 : Int) (b2_0 : Int) (b2_1 : Int) : Option (Span) := cutF TT Tryz.prog ref11_logic_C ref11_logic_cuts Tryz.f36 (bodyOf Tryz.f36) ⟨[], []⟩ [.val (.int .u8), .val (.user 0), .val (.user 0)] [.val (.user 0)] n [true] ⟨[(0, .cell ⟨.int .u8, s0⟩), (4, .ptr 0 0), (5, .ptr 1 0), (6, .ptr 2 0), (7, .cell ⟨.bool, s7⟩)], [.blk 27 [.cell ⟨.int .u64, b0_0⟩, .cell ⟨.int .u64, b0_1⟩], .blk 27 [.cell ⟨.int .u64, b1_0⟩, .cell ⟨.int .u64, b1_1⟩], .blk 27 [.cell ⟨.int .u64, b2_0⟩, .cell ⟨.int .u64, b2_1⟩]]⟩
noncomputable def ref11_logic_J1 (n : Nat) (s0 : Int) (s7 : Bool) (s14 : Bool) (b0_0 : Int) (b0_1 : Int) (b1_0 : Int) (b1_1 : Int) (b2_0 : Int) (b2_1 : Int) : Option (Span) := cutF TT Tryz.prog ref11_logic_C ref11_logic_cuts Tryz.f36 (bodyOf Tryz.f36) ⟨[], []⟩ [.val (.int .u8), .val (.user 0), .val (.user 0)] [.val (.user 0)] n [false, false, true, true] ⟨[(0, .cell ⟨.int .u8, s0⟩), (4, .ptr 0 0), (5, .ptr 1 0), (6, .ptr 2 0), (7, .cell ⟨.bool, s7⟩), (14, .cell ⟨.bool, s14⟩)], [.blk 27 [.cell ⟨.int .u64, b0_0⟩, .cell ⟨.int .u64, b0_1⟩], .blk 27 [.cell ⟨.int .u64, b1_0⟩, .cell ⟨.int .u64, b1_1⟩], .blk 27 [.cell ⟨.int .u64, b2_0⟩, .cell ⟨.int .u64, b2_1⟩]]⟩
noncomputable def ref11_logic_J2 (n : Nat) (s0 : Int) (s7 : Bool) (s26 : Bool) (b0_0 : Int) (b0_1 : Int) (b1_0 : Int) (b1_1 : Int) (b2_0 : Int) (b2_1 : Int) : Option (Span) := cutF TT Tryz.prog ref11_logic_C ref11_logic_cuts Tryz.f36 (bodyOf Tryz.f36) ⟨[], []⟩ [.val (.int .u8), .val (.user 0), .val (.user 0)] [.val (.user 0)] n [true, true, false, false, true, true] ⟨[(0, .cell ⟨.int .u8, s0⟩), (4, .ptr 0 0), (5, .ptr 1 0), (6, .ptr 2 0), (7, .cell ⟨.bool, s7⟩), (26, .cell ⟨.bool, s26⟩)], [.blk 27 [.cell ⟨.int .u64, b0_0⟩, .cell ⟨.int .u64, b0_1⟩], .blk 27 [.cell ⟨.int .u64, b1_0⟩, .cell ⟨.int .u64, b1_1⟩], .blk 27 [.cell ⟨.int .u64, b2_0⟩, .cell ⟨.int .u64, b2_1⟩]]⟩
theorem ref11_logic_eq (n : Nat) (x0 : Int) (x1 : Span) (x2 : Span) : ref11_logic n x0 x1 x2 =
  obind (ref11_single BIG x1) fun y1 =>
  forkB y1
  (obind (ref11_single BIG x2) fun y2 =>
   ref11_logic_J0 n x0 y2 x1.Lo x1.Hi x2.Lo x2.Hi (0 : Int) (0 : Int))
  (ref11_logic_J0 n x0 false x1.Lo x1.Hi x2.Lo x2.Hi (0 : Int) (0 : Int)) := by kernel_rfl
theorem ref11_logic_J0_eq (n : Nat) (s0 : Int) (s7 : Bool) (b0_0 : Int) (b0_1 : Int) (b1_0 : Int) (b1_1 : Int) (b2_0 : Int) (b2_1 : Int) : ref11_logic_J0 (n + 1) s0 s7 b0_0 b0_1 b1_0 b1_1 b2_0 b2_1 =
  forkB (s0 == (6 : Int))
  (ref11_logic_J1 n s0 s7 s7 b0_0 b0_1 b1_0 b1_1 b2_0 b2_1)
  (ref11_logic_J1 n s0 s7 false b0_0 b0_1 b1_0 b1_1 b2_0 b2_1) := by kernel_rfl
theorem ref11_logic_J1_eq (n : Nat) (s0 : Int) (s7 : Bool) (s14 : Bool) (b0_0 : Int) (b0_1 : Int) (b1_0 : Int) (b1_1 : Int) (b2_0 : Int) (b2_1 : Int) : ref11_logic_J1 (n + 1) s0 s7 s14 b0_0 b0_1 b1_0 b1_1 b2_0 b2_1 =
  forkB s14
  (obind (ref11Of BIG (bAnd .u64 b0_0 b1_0)) fun y1 =>
   some y1)
  (forkB (s0 == (7 : Int))
   (ref11_logic_J2 n s0 s7 s7 b0_0 b0_1 b1_0 b1_1 b2_0 b2_1)
   (ref11_logic_J2 n s0 s7 false b0_0 b0_1 b1_0 b1_1 b2_0 b2_1)) := by kernel_rfl
theorem ref11_logic_J2_eq (n : Nat) (s0 : Int) (s7 : Bool) (s26 : Bool) (b0_0 : Int) (b0_1 : Int) (b1_0 : Int) (b1_1 : Int) (b2_0 : Int) (b2_1 : Int) : ref11_logic_J2 (n + 1) s0 s7 s26 b0_0 b0_1 b1_0 b1_1 b2_0 b2_1 =
  forkB s26
  (obind (ref11Of BIG (bOr .u64 b0_0 b1_0)) fun y1 =>
   some y1)
  (forkB s7
   (obind (ref11Of BIG (bXor .u64 b0_0 b1_0)) fun y2 =>
    some y2)
   (forkB (s0 == (6 : Int))
    (some (⟨(0 : Int), gMin b0_1 b1_1⟩ : Span))
    (forkB (s0 == (7 : Int))
     (obind (ref11_filled BIG (bOr .u64 b0_1 b1_1)) fun y3 =>
      some (⟨gMax b0_0 b1_0, y3⟩ : Span))
     (obind (ref11_filled BIG (bOr .u64 b0_1 b1_1)) fun y4 =>
      some (⟨(0 : Int), y4⟩ : Span))))) := by kernel_rfl
noncomputable def ref11_logic_sp : FnSpec TT := ⟨[.val (.int .u8), .val (.user 0), .val (.user 0)], [.val (.user 0)], fun x => ref11_logic BIG x.1 x.2.1 x.2.2⟩
theorem ref11_logic_ok : FnOk TT Tryz.prog 36 ref11_logic_sp := fnOk_of (C := ref11_logic_C) (by kernel_rfl) ref11_logic_env Tryz.func36 (show Tryz.f36.body = some (bodyOf Tryz.f36) by kernel_rfl) (by kernel_rfl) (by kernel_rfl) (cuts := ref11_logic_cuts) fun x y h => ⟨BIG, h⟩
noncomputable def ref11_bits_C : Ctx TT := ⟨tyOf, [], 0, [], layOf⟩
theorem ref11_bits_env : EnvOk TT Tryz.prog ref11_bits_C.E := envNil
def ref11_bits_cuts : List (Pos × Cut) := []
noncomputable def ref11_bits (n : Nat) (x0 : Bool) : Option (Int) := topF TT Tryz.prog ref11_bits_C ref11_bits_cuts Tryz.f60 (bodyOf Tryz.f60) ⟨[], []⟩ [.val (.bool)] [.val (.int .u64)] n x0
theorem ref11_bits_eq (n : Nat) (x0 : Bool) : ref11_bits n x0 =
  forkB x0
  (some (32 : Int))
  (some (64 : Int)) := by kernel_rfl
noncomputable def ref11_bits_sp : FnSpec TT := ⟨[.val (.bool)], [.val (.int .u64)], fun x => ref11_bits BIG x⟩
theorem ref11_bits_ok : FnOk TT Tryz.prog 60 ref11_bits_sp := fnOk_of (C := ref11_bits_C) (by kernel_rfl) ref11_bits_env Tryz.func60 (show Tryz.f60.body = some (bodyOf Tryz.f60) by kernel_rfl) (by kernel_rfl) (by kernel_rfl) (cuts := ref11_bits_cuts) fun x y h => ⟨BIG, h⟩
noncomputable def ref11_below_C : Ctx TT := ⟨tyOf, [], 0, [], layOf⟩
theorem ref11_below_env : EnvOk TT Tryz.prog ref11_below_C.E := envNil
def ref11_below_cuts : List (Pos × Cut) := []
noncomputable def ref11_below (n : Nat) (x0 : Int) (x1 : Bool) : Option (Bool) := topF TT Tryz.prog ref11_below_C ref11_below_cuts Tryz.f62 (bodyOf Tryz.f62) ⟨[], []⟩ [.val (.int .u64), .val (.bool)] [.val (.bool)] n (x0, x1)
theorem ref11_below_eq (n : Nat) (x0 : Int) (x1 : Bool) : ref11_below n x0 x1 =
  forkB x1
  (some ((bAnd .u64 (sShr .u64 x0 (31 : Int)) (1 : Int)) == (1 : Int)))
  (some ((sShr .u64 x0 (63 : Int)) == (1 : Int))) := by kernel_rfl
noncomputable def ref11_below_sp : FnSpec TT := ⟨[.val (.int .u64), .val (.bool)], [.val (.bool)], fun x => ref11_below BIG x.1 x.2⟩
theorem ref11_below_ok : FnOk TT Tryz.prog 62 ref11_below_sp := fnOk_of (C := ref11_below_C) (by kernel_rfl) ref11_below_env Tryz.func62 (show Tryz.f62.body = some (bodyOf Tryz.f62) by kernel_rfl) (by kernel_rfl) (by kernel_rfl) (cuts := ref11_below_cuts) fun x y h => ⟨BIG, h⟩
noncomputable def ref11_shifts_C : Ctx TT := ⟨tyOf, [(34, ref11_most_sp.toCall), (60, ref11_bits_sp.toCall), (58, ref11_single_sp.toCall), (61, ref01Do_sp.toCall), (62, ref11_below_sp.toCall)], 0, [(12, 1), (15, 1)], layOf⟩
theorem ref11_shifts_env : EnvOk TT Tryz.prog ref11_shifts_C.E := envG (fnCall_ok ref11_most_ok) (envG (fnCall_ok ref11_bits_ok) (envG (fnCall_ok ref11_single_ok) (envG (fnCall_ok ref01Do_ok) (envG (fnCall_ok ref11_below_ok) (envNil)))))
def ref11_shifts_cuts : List (Pos × Cut) := []
noncomputable def ref11_shifts (n : Nat) (x0 : Int) (x1 : Bool) (x2 : Span) (x3 : Span) : Option (Span × Bool) := topF TT Tryz.prog ref11_shifts_C ref11_shifts_cuts Tryz.f37 (bodyOf Tryz.f37) ⟨[], []⟩ [.val (.int .u8), .val (.bool), .val (.user 0), .val (.user 0)] [.val (.user 0), .val (.bool)] n (x0, x1, x2, x3)
theorem ref11_shifts_eq (n : Nat) (x0 : Int) (x1 : Bool) (x2 : Span) (x3 : Span) : ref11_shifts n x0 x1 x2 x3 =
  obind (ref11_most BIG x1) fun y1 =>
  obind (ref11_bits BIG x1) fun y2 =>
  if y2 = 0 then none else (forkB (x0 == (10 : Int))
  (obind (ref11_single BIG x3) fun y3 =>
   forkB y3
   (if x3.Lo.tmod y2 < 0 then none else (if x3.Lo.tmod y2 < 0 then none else (some ((⟨sShr .u64 x2.Lo (x3.Lo.tmod y2), sShr .u64 x2.Hi (x3.Lo.tmod y2)⟩ : Span), true))))
   (forkB (decide (x3.Hi < y2))
    (if x3.Hi < 0 then none else (if x3.Lo < 0 then none else (some ((⟨sShr .u64 x2.Lo x3.Hi, sShr .u64 x2.Hi x3.Lo⟩ : Span), true))))
    (some ((⟨(0 : Int), x2.Hi⟩ : Span), true))))
  (obind (ref11_single BIG x3) fun y4 =>
   forkB (!y4)
   (some ((⟨(0 : Int), (0 : Int)⟩ : Span), false))
   (forkB (x0 == (9 : Int))
    (if x3.Lo.tmod y2 < 0 then none else (if x3.Lo.tmod y2 < 0 then none else (if x3.Lo.tmod y2 < 0 then none else (some ((⟨bAnd .u64 (sShl .u64 x2.Lo (x3.Lo.tmod y2)) y1, bAnd .u64 (sShl .u64 x2.Hi (x3.Lo.tmod y2)) y1⟩ : Span), decide (x2.Hi ≤ (sShr .u64 y1 (x3.Lo.tmod y2))))))))
    (obind (ref01Do BIG (11 : Int) x1 x2.Lo (x3.Lo.tmod y2)) fun y5 =>
     obind (ref01Do BIG (11 : Int) x1 x2.Hi (x3.Lo.tmod y2)) fun y6 =>
     obind (ref11_below BIG x2.Lo x1) fun y7 =>
     obind (ref11_below BIG x2.Hi x1) fun y8 =>
     some ((⟨y5.1, y6.1⟩ : Span), y7 == y8))))) := by kernel_rfl
noncomputable def ref11_shifts_sp : FnSpec TT := ⟨[.val (.int .u8), .val (.bool), .val (.user 0), .val (.user 0)], [.val (.user 0), .val (.bool)], fun x => ref11_shifts BIG x.1 x.2.1 x.2.2.1 x.2.2.2⟩
theorem ref11_shifts_ok : FnOk TT Tryz.prog 37 ref11_shifts_sp := fnOk_of (C := ref11_shifts_C) (by kernel_rfl) ref11_shifts_env Tryz.func37 (show Tryz.f37.body = some (bodyOf Tryz.f37) by kernel_rfl) (by kernel_rfl) (by kernel_rfl) (cuts := ref11_shifts_cuts) fun x y h => ⟨BIG, h⟩
noncomputable def ref11Do_C : Ctx TT := ⟨tyOf, [(24, ref11Right_sp.toCall), (28, ref11All_sp.toCall), (32, ref11_cut_sp.toCall), (34, ref11_most_sp.toCall), (33, ref11_sums_sp.toCall), (35, ref11_parts_sp.toCall), (36, ref11_logic_sp.toCall), (37, ref11_shifts_sp.toCall)], 0, [(3, 1), (10, 1)], layOf⟩
theorem ref11Do_env : EnvOk TT Tryz.prog ref11Do_C.E := envG (fnCall_ok ref11Right_ok) (envG (fnCall_ok ref11All_ok) (envG (fnCall_ok ref11_cut_ok) (envG (fnCall_ok ref11_most_ok) (envG (fnCall_ok ref11_sums_ok) (envG (fnCall_ok ref11_parts_ok) (envG (fnCall_ok ref11_logic_ok) (envG (fnCall_ok ref11_shifts_ok) (envNil))))))))
def ref11Do_cuts : List (Pos × Cut) := [([false, true], ⟨[0, 1, 6, 7, 8, 28], [], false, []⟩), ([true, true, true, true], ⟨[1, 8, 11, 12], [], false, []⟩), ([false, true, false, true, true, true, true], ⟨[0, 1, 8, 9, 10, 11, 12, 38, 39], [], false, []⟩), ([true, true, false, true, false, true, true, true, true], ⟨[0, 1, 8, 9, 10, 11, 12, 38, 53], [], false, []⟩), ([true, true, true, true, false, true, false, true, true, true, true], ⟨[0, 1, 8, 9, 10, 11, 12, 38, 60], [], false, []⟩), ([true, true, true, true, true, true, false, true, false, true, true, true, true], ⟨[0, 1, 8, 9, 10, 11, 12, 68], [], false, []⟩)]
noncomputable def ref11Do (n : Nat) (x0 : Int) (x1 : Bool) (x2 : Span) (x3 : Span) : Option (Span) := topF TT Tryz.prog ref11Do_C ref11Do_cuts Tryz.f12 (bodyOf Tryz.f12) ⟨[], []⟩ [.val (.int .u8), .val (.bool), .val (.user 0), .val (.user 0)] [.val (.user 0)] n (x0, x1, x2, x3)
noncomputable def ref11Do_J0 (n : Nat) (s0 : Int) (s1 : Bool) (s28 : Bool) (b0_0 : Int) (b0_1 : Int) (b1_0 : Int) (b1_1 : Int) (b2_0 : Int) (b2_1 : Int) : Option (Span) := cutF TT Tryz.prog ref11Do_C ref11Do_cuts Tryz.f12 (bodyOf Tryz.f12) ⟨[], []⟩ [.val (.int .u8), .val (.bool), .val (.user 0), .val (.user 0)] [.val (.user 0)] n [false, true] ⟨[(0, .cell ⟨.int .u8, s0⟩), (1, .cell ⟨.bool, s1⟩), (6, .ptr 0 0), (7, .ptr 1 0), (8, .ptr 2 0), (28, .cell ⟨.bool, s28⟩)], [.blk 27 [.cell ⟨.int .u64, b0_0⟩, .cell ⟨.int .u64, b0_1⟩], .blk 27 [.cell ⟨.int .u64, b1_0⟩, .cell ⟨.int .u64, b1_1⟩], .blk 27 [.cell ⟨.int .u64, b2_0⟩, .cell ⟨.int .u64, b2_1⟩]]⟩
noncomputable def ref11Do_J2 (n : Nat) (s0 : Int) (s1 : Bool) (s12 : Bool) (s38 : Int) (s39 : Bool) (b0_0 : Int) (b0_1 : Int) (b1_0 : Int) (b1_1 : Int) (b2_0 : Int) (b2_1 : Int) (b3_0 : Int) (b3_1 : Int) : Option (Span) := cutF TT Tryz.prog ref11Do_C ref11Do_cuts Tryz.f12 (bodyOf Tryz.f12) ⟨[], []⟩ [.val (.int .u8), .val (.bool), .val (.user 0), .val (.user 0)] [.val (.user 0)] n [false, true, false, true, true, true, true] ⟨[(0, .cell ⟨.int .u8, s0⟩), (1, .cell ⟨.bool, s1⟩), (8, .ptr 0 0), (9, .ptr 1 0), (10, .ptr 2 0), (11, .ptr 3 0), (12, .cell ⟨.bool, s12⟩), (38, .cell ⟨.int .u8, s38⟩), (39, .cell ⟨.bool, s39⟩)], [.blk 27 [.cell ⟨.int .u64, b0_0⟩, .cell ⟨.int .u64, b0_1⟩], .blk 27 [.cell ⟨.int .u64, b1_0⟩, .cell ⟨.int .u64, b1_1⟩], .blk 27 [.cell ⟨.int .u64, b2_0⟩, .cell ⟨.int .u64, b2_1⟩], .blk 27 [.cell ⟨.int .u64, b3_0⟩, .cell ⟨.int .u64, b3_1⟩]]⟩
noncomputable def ref11Do_J1 (n : Nat) (s1 : Bool) (s12 : Bool) (b0_0 : Int) (b0_1 : Int) (b1_0 : Int) (b1_1 : Int) : Option (Span) := cutF TT Tryz.prog ref11Do_C ref11Do_cuts Tryz.f12 (bodyOf Tryz.f12) ⟨[], []⟩ [.val (.int .u8), .val (.bool), .val (.user 0), .val (.user 0)] [.val (.user 0)] n [true, true, true, true] ⟨[(1, .cell ⟨.bool, s1⟩), (8, .ptr 0 0), (11, .ptr 1 0), (12, .cell ⟨.bool, s12⟩)], [.blk 27 [.cell ⟨.int .u64, b0_0⟩, .cell ⟨.int .u64, b0_1⟩], .blk 27 [.cell ⟨.int .u64, b1_0⟩, .cell ⟨.int .u64, b1_1⟩]]⟩
noncomputable def ref11Do_J3 (n : Nat) (s0 : Int) (s1 : Bool) (s12 : Bool) (s38 : Int) (s53 : Bool) (b0_0 : Int) (b0_1 : Int) (b1_0 : Int) (b1_1 : Int) (b2_0 : Int) (b2_1 : Int) (b3_0 : Int) (b3_1 : Int) : Option (Span) := cutF TT Tryz.prog ref11Do_C ref11Do_cuts Tryz.f12 (bodyOf Tryz.f12) ⟨[], []⟩ [.val (.int .u8), .val (.bool), .val (.user 0), .val (.user 0)] [.val (.user 0)] n [true, true, false, true, false, true, true, true, true] ⟨[(0, .cell ⟨.int .u8, s0⟩), (1, .cell ⟨.bool, s1⟩), (8, .ptr 0 0), (9, .ptr 1 0), (10, .ptr 2 0), (11, .ptr 3 0), (12, .cell ⟨.bool, s12⟩), (38, .cell ⟨.int .u8, s38⟩), (53, .cell ⟨.bool, s53⟩)], [.blk 27 [.cell ⟨.int .u64, b0_0⟩, .cell ⟨.int .u64, b0_1⟩], .blk 27 [.cell ⟨.int .u64, b1_0⟩, .cell ⟨.int .u64, b1_1⟩], .blk 27 [.cell ⟨.int .u64, b2_0⟩, .cell ⟨.int .u64, b2_1⟩], .blk 27 [.cell ⟨.int .u64, b3_0⟩, .cell ⟨.int .u64, b3_1⟩]]⟩
noncomputable def ref11Do_J4 (n : Nat) (s0 : Int) (s1 : Bool) (s12 : Bool) (s38 : Int) (s60 : Bool) (b0_0 : Int) (b0_1 : Int) (b1_0 : Int) (b1_1 : Int) (b2_0 : Int) (b2_1 : Int) (b3_0 : Int) (b3_1 : Int) : Option (Span) := cutF TT Tryz.prog ref11Do_C ref11Do_cuts Tryz.f12 (bodyOf Tryz.f12) ⟨[], []⟩ [.val (.int .u8), .val (.bool), .val (.user 0), .val (.user 0)] [.val (.user 0)] n [true, true, true, true, false, true, false, true, true, true, true] ⟨[(0, .cell ⟨.int .u8, s0⟩), (1, .cell ⟨.bool, s1⟩), (8, .ptr 0 0), (9, .ptr 1 0), (10, .ptr 2 0), (11, .ptr 3 0), (12, .cell ⟨.bool, s12⟩), (38, .cell ⟨.int .u8, s38⟩), (60, .cell ⟨.bool, s60⟩)], [.blk 27 [.cell ⟨.int .u64, b0_0⟩, .cell ⟨.int .u64, b0_1⟩], .blk 27 [.cell ⟨.int .u64, b1_0⟩, .cell ⟨.int .u64, b1_1⟩], .blk 27 [.cell ⟨.int .u64, b2_0⟩, .cell ⟨.int .u64, b2_1⟩], .blk 27 [.cell ⟨.int .u64, b3_0⟩, .cell ⟨.int .u64, b3_1⟩]]⟩
noncomputable def ref11Do_J5 (n : Nat) (s0 : Int) (s1 : Bool) (s12 : Bool) (s68 : Bool) (b0_0 : Int) (b0_1 : Int) (b1_0 : Int) (b1_1 : Int) (b2_0 : Int) (b2_1 : Int) (b3_0 : Int) (b3_1 : Int) : Option (Span) := cutF TT Tryz.prog ref11Do_C ref11Do_cuts Tryz.f12 (bodyOf Tryz.f12) ⟨[], []⟩ [.val (.int .u8), .val (.bool), .val (.user 0), .val (.user 0)] [.val (.user 0)] n [true, true, true, true, true, true, false, true, false, true, true, true, true] ⟨[(0, .cell ⟨.int .u8, s0⟩), (1, .cell ⟨.bool, s1⟩), (8, .ptr 0 0), (9, .ptr 1 0), (10, .ptr 2 0), (11, .ptr 3 0), (12, .cell ⟨.bool, s12⟩), (68, .cell ⟨.bool, s68⟩)], [.blk 27 [.cell ⟨.int .u64, b0_0⟩, .cell ⟨.int .u64, b0_1⟩], .blk 27 [.cell ⟨.int .u64, b1_0⟩, .cell ⟨.int .u64, b1_1⟩], .blk 27 [.cell ⟨.int .u64, b2_0⟩, .cell ⟨.int .u64, b2_1⟩], .blk 27 [.cell ⟨.int .u64, b3_0⟩, .cell ⟨.int .u64, b3_1⟩]]⟩
theorem ref11Do_eq (n : Nat) (x0 : Int) (x1 : Bool) (x2 : Span) (x3 : Span) : ref11Do n x0 x1 x2 x3 =
  forkB (decide (x0 < (1 : Int)))
  (ref11Do_J0 n x0 x1 true x2.Lo x2.Hi x3.Lo x3.Hi (0 : Int) (0 : Int))
  (forkB (decide (x0 > (13 : Int)))
   (ref11Do_J0 n x0 x1 true x2.Lo x2.Hi x3.Lo x3.Hi (0 : Int) (0 : Int))
   (obind (ref11Right BIG x2) fun y1 =>
    forkB (!y1)
    (ref11Do_J0 n x0 x1 true x2.Lo x2.Hi x3.Lo x3.Hi (0 : Int) (0 : Int))
    (obind (ref11Right BIG x3) fun y2 =>
     ref11Do_J0 n x0 x1 (!y2) x2.Lo x2.Hi x3.Lo x3.Hi (0 : Int) (0 : Int)))) := by kernel_rfl
theorem ref11Do_J0_eq (n : Nat) (s0 : Int) (s1 : Bool) (s28 : Bool) (b0_0 : Int) (b0_1 : Int) (b1_0 : Int) (b1_1 : Int) (b2_0 : Int) (b2_1 : Int) : ref11Do_J0 (n + 1) s0 s1 s28 b0_0 b0_1 b1_0 b1_1 b2_0 b2_1 =
  forkB s28
  (obind (ref11All BIG s1) fun y1 =>
   some y1)
  (obind (ref11_cut BIG (⟨b0_0, b0_1⟩ : Span) s1) fun y2 =>
   obind (ref11_cut BIG (⟨b1_0, b1_1⟩ : Span) s1) fun y3 =>
   forkB (s0 == (1 : Int))
   (ref11Do_J2 n s0 s1 true s0 (s0 == (1 : Int)) b2_0 b2_1 y2.Lo y2.Hi y3.Lo y3.Hi y3.Lo y3.Hi)
   (forkB (s0 == (2 : Int))
    (ref11Do_J2 n s0 s1 true s0 (s0 == (2 : Int)) b2_0 b2_1 y2.Lo y2.Hi y3.Lo y3.Hi y3.Lo y3.Hi)
    (forkB (s0 == (3 : Int))
     (ref11Do_J2 n s0 s1 true s0 (s0 == (3 : Int)) b2_0 b2_1 y2.Lo y2.Hi y3.Lo y3.Hi y3.Lo y3.Hi)
     (ref11Do_J2 n s0 s1 true s0 (s0 == (13 : Int)) b2_0 b2_1 y2.Lo y2.Hi y3.Lo y3.Hi y3.Lo y3.Hi)))) := by kernel_rfl
theorem ref11Do_J2_eq (n : Nat) (s0 : Int) (s1 : Bool) (s12 : Bool) (s38 : Int) (s39 : Bool) (b0_0 : Int) (b0_1 : Int) (b1_0 : Int) (b1_1 : Int) (b2_0 : Int) (b2_1 : Int) (b3_0 : Int) (b3_1 : Int) : ref11Do_J2 (n + 1) s0 s1 s12 s38 s39 b0_0 b0_1 b1_0 b1_1 b2_0 b2_1 b3_0 b3_1 =
  forkB s39
  (obind (ref11_most BIG s1) fun y1 =>
   obind (ref11_sums BIG s0 y1 (⟨b1_0, b1_1⟩ : Span) (⟨b2_0, b2_1⟩ : Span)) fun y2 =>
   ref11Do_J1 n s1 y2.2 b0_0 b0_1 y2.1.Lo y2.1.Hi)
  (forkB (s38 == (4 : Int))
   (ref11Do_J3 n s0 s1 s12 s38 (s38 == (4 : Int)) b0_0 b0_1 b1_0 b1_1 b2_0 b2_1 b3_0 b3_1)
   (ref11Do_J3 n s0 s1 s12 s38 (s38 == (5 : Int)) b0_0 b0_1 b1_0 b1_1 b2_0 b2_1 b3_0 b3_1)) := by kernel_rfl
theorem ref11Do_J1_eq (n : Nat) (s1 : Bool) (s12 : Bool) (b0_0 : Int) (b0_1 : Int) (b1_0 : Int) (b1_1 : Int) : ref11Do_J1 (n + 1) s1 s12 b0_0 b0_1 b1_0 b1_1 =
  forkB (!s12)
  (obind (ref11All BIG s1) fun y1 =>
   some y1)
  (some (⟨b1_0, b1_1⟩ : Span)) := by kernel_rfl
theorem ref11Do_J3_eq (n : Nat) (s0 : Int) (s1 : Bool) (s12 : Bool) (s38 : Int) (s53 : Bool) (b0_0 : Int) (b0_1 : Int) (b1_0 : Int) (b1_1 : Int) (b2_0 : Int) (b2_1 : Int) (b3_0 : Int) (b3_1 : Int) : ref11Do_J3 (n + 1) s0 s1 s12 s38 s53 b0_0 b0_1 b1_0 b1_1 b2_0 b2_1 b3_0 b3_1 =
  forkB s53
  (obind (ref11_parts BIG s0 (⟨b1_0, b1_1⟩ : Span) (⟨b2_0, b2_1⟩ : Span)) fun y1 =>
   ref11Do_J1 n s1 s12 b0_0 b0_1 y1.Lo y1.Hi)
  (forkB (s38 == (6 : Int))
   (ref11Do_J4 n s0 s1 s12 s38 (s38 == (6 : Int)) b0_0 b0_1 b1_0 b1_1 b2_0 b2_1 b3_0 b3_1)
   (forkB (s38 == (7 : Int))
    (ref11Do_J4 n s0 s1 s12 s38 (s38 == (7 : Int)) b0_0 b0_1 b1_0 b1_1 b2_0 b2_1 b3_0 b3_1)
    (ref11Do_J4 n s0 s1 s12 s38 (s38 == (8 : Int)) b0_0 b0_1 b1_0 b1_1 b2_0 b2_1 b3_0 b3_1))) := by kernel_rfl
theorem ref11Do_J4_eq (n : Nat) (s0 : Int) (s1 : Bool) (s12 : Bool) (s38 : Int) (s60 : Bool) (b0_0 : Int) (b0_1 : Int) (b1_0 : Int) (b1_1 : Int) (b2_0 : Int) (b2_1 : Int) (b3_0 : Int) (b3_1 : Int) : ref11Do_J4 (n + 1) s0 s1 s12 s38 s60 b0_0 b0_1 b1_0 b1_1 b2_0 b2_1 b3_0 b3_1 =
  forkB s60
  (obind (ref11_logic BIG s0 (⟨b1_0, b1_1⟩ : Span) (⟨b2_0, b2_1⟩ : Span)) fun y1 =>
   ref11Do_J1 n s1 s12 b0_0 b0_1 y1.Lo y1.Hi)
  (forkB (s38 == (9 : Int))
   (ref11Do_J5 n s0 s1 s12 (s38 == (9 : Int)) b0_0 b0_1 b1_0 b1_1 b2_0 b2_1 b3_0 b3_1)
   (forkB (s38 == (10 : Int))
    (ref11Do_J5 n s0 s1 s12 (s38 == (10 : Int)) b0_0 b0_1 b1_0 b1_1 b2_0 b2_1 b3_0 b3_1)
    (ref11Do_J5 n s0 s1 s12 (s38 == (11 : Int)) b0_0 b0_1 b1_0 b1_1 b2_0 b2_1 b3_0 b3_1))) := by kernel_rfl
theorem ref11Do_J5_eq (n : Nat) (s0 : Int) (s1 : Bool) (s12 : Bool) (s68 : Bool) (b0_0 : Int) (b0_1 : Int) (b1_0 : Int) (b1_1 : Int) (b2_0 : Int) (b2_1 : Int) (b3_0 : Int) (b3_1 : Int) : ref11Do_J5 (n + 1) s0 s1 s12 s68 b0_0 b0_1 b1_0 b1_1 b2_0 b2_1 b3_0 b3_1 =
  forkB s68
  (obind (ref11_shifts BIG s0 s1 (⟨b1_0, b1_1⟩ : Span) (⟨b2_0, b2_1⟩ : Span)) fun y1 =>
   ref11Do_J1 n s1 y1.2 b0_0 b0_1 y1.1.Lo y1.1.Hi)
  (ref11Do_J1 n s1 s12 b0_0 b0_1 b3_0 b3_1) := by kernel_rfl
noncomputable def ref11Do_sp : FnSpec TT := ⟨[.val (.int .u8), .val (.bool), .val (.user 0), .val (.user 0)], [.val (.user 0)], fun x => ref11Do BIG x.1 x.2.1 x.2.2.1 x.2.2.2⟩
theorem ref11Do_ok : FnOk TT Tryz.prog 12 ref11Do_sp := fnOk_of (C := ref11Do_C) (by kernel_rfl) ref11Do_env Tryz.func12 (show Tryz.f12.body = some (bodyOf Tryz.f12) by kernel_rfl) (by kernel_rfl) (by kernel_rfl) (cuts := ref11Do_cuts) fun x y h => ⟨BIG, h⟩
noncomputable def ref11_opposite_C : Ctx TT := ⟨tyOf, [], 0, [], layOf⟩
theorem ref11_opposite_env : EnvOk TT Tryz.prog ref11_opposite_C.E := envNil
def ref11_opposite_cuts : List (Pos × Cut) := []
noncomputable def ref11_opposite (n : Nat) (x0 : Int) : Option (Int) := topF TT Tryz.prog ref11_opposite_C ref11_opposite_cuts Tryz.f40 (bodyOf Tryz.f40) ⟨[], []⟩ [.val (.int .u8)] [.val (.int .u8)] n x0
theorem ref11_opposite_eq (n : Nat) (x0 : Int) : ref11_opposite n x0 =
  forkB (x0 == (17 : Int))
  (some (18 : Int))
  (forkB (x0 == (18 : Int))
   (some (17 : Int))
   (forkB (x0 == (19 : Int))
    (some (22 : Int))
    (forkB (x0 == (20 : Int))
     (some (21 : Int))
     (forkB (x0 == (21 : Int))
      (some (20 : Int))
      (forkB (x0 == (22 : Int))
       (some (19 : Int))
       (forkB (x0 == (23 : Int))
        (some (26 : Int))
        (forkB (x0 == (24 : Int))
         (some (25 : Int))
         (forkB (x0 == (25 : Int))
          (some (24 : Int))
          (some (23 : Int)))))))))) := by kernel_rfl
noncomputable def ref11_opposite_sp : FnSpec TT := ⟨[.val (.int .u8)], [.val (.int .u8)], fun x => ref11_opposite BIG x⟩
theorem ref11_opposite_ok : FnOk TT Tryz.prog 40 ref11_opposite_sp := fnOk_of (C := ref11_opposite_C) (by kernel_rfl) ref11_opposite_env Tryz.func40 (show Tryz.f40.body = some (bodyOf Tryz.f40) by kernel_rfl) (by kernel_rfl) (by kernel_rfl) (cuts := ref11_opposite_cuts) fun x y h => ⟨BIG, h⟩
noncomputable def ref11_set_C : Ctx TT := ⟨tyOf, [(58, ref11_single_sp.toCall)], 0, [(3, 1), (5, 1), (6, 1)], layOf⟩
theorem ref11_set_env : EnvOk TT Tryz.prog ref11_set_C.E := envG (fnCall_ok ref11_single_ok) (envNil)
def ref11_set_cuts : List (Pos × Cut) := [([true], ⟨[0, 4, 5, 6, 7, 9], [], false, []⟩), ([false, true, false, true, true], ⟨[6, 7, 8], [], false, []⟩), ([false, true, true, true], ⟨[4, 5, 6, 7, 48], [], false, []⟩)]
noncomputable def ref11_set (n : Nat) (x0 : Bool) (x1 : Span) (x2 : Span) : Option (Span × Span × Bool) := topF TT Tryz.prog ref11_set_C ref11_set_cuts Tryz.f41 (bodyOf Tryz.f41) ⟨[], []⟩ [.val (.bool), .val (.user 0), .val (.user 0)] [.val (.user 0), .val (.user 0), .val (.bool)] n (x0, x1, x2)
noncomputable def ref11_set_J0 (n : Nat) (s0 : Bool) (s9 : Bool) (b0_0 : Int) (b0_1 : Int) (b1_0 : Int) (b1_1 : Int) (b2_0 : Int) (b2_1 : Int) (b3_0 : Int) (b3_1 : Int) : Option (Span × Span × Bool) := cutF TT Tryz.prog ref11_set_C ref11_set_cuts Tryz.f41 (bodyOf Tryz.f41) ⟨[], []⟩ [.val (.bool), .val (.user 0), .val (.user 0)] [.val (.user 0), .val (.user 0), .val (.bool)] n [true] ⟨[(0, .cell ⟨.bool, s0⟩), (4, .ptr 0 0), (5, .ptr 1 0), (6, .ptr 2 0), (7, .ptr 3 0), (9, .cell ⟨.bool, s9⟩)], [.blk 27 [.cell ⟨.int .u64, b0_0⟩, .cell ⟨.int .u64, b0_1⟩], .blk 27 [.cell ⟨.int .u64, b1_0⟩, .cell ⟨.int .u64, b1_1⟩], .blk 27 [.cell ⟨.int .u64, b2_0⟩, .cell ⟨.int .u64, b2_1⟩], .blk 27 [.cell ⟨.int .u64, b3_0⟩, .cell ⟨.int .u64, b3_1⟩]]⟩
noncomputable def ref11_set_J1 (n : Nat) (s8 : Bool) (b0_0 : Int) (b0_1 : Int) (b1_0 : Int) (b1_1 : Int) : Option (Span × Span × Bool) := cutF TT Tryz.prog ref11_set_C ref11_set_cuts Tryz.f41 (bodyOf Tryz.f41) ⟨[], []⟩ [.val (.bool), .val (.user 0), .val (.user 0)] [.val (.user 0), .val (.user 0), .val (.bool)] n [false, true, false, true, true] ⟨[(6, .ptr 0 0), (7, .ptr 1 0), (8, .cell ⟨.bool, s8⟩)], [.blk 27 [.cell ⟨.int .u64, b0_0⟩, .cell ⟨.int .u64, b0_1⟩], .blk 27 [.cell ⟨.int .u64, b1_0⟩, .cell ⟨.int .u64, b1_1⟩]]⟩
noncomputable def ref11_set_J2 (n : Nat) (s48 : Bool) (b0_0 : Int) (b0_1 : Int) (b1_0 : Int) (b1_1 : Int) (b2_0 : Int) (b2_1 : Int) (b3_0 : Int) (b3_1 : Int) : Option (Span × Span × Bool) := cutF TT Tryz.prog ref11_set_C ref11_set_cuts Tryz.f41 (bodyOf Tryz.f41) ⟨[], []⟩ [.val (.bool), .val (.user 0), .val (.user 0)] [.val (.user 0), .val (.user 0), .val (.bool)] n [false, true, true, true] ⟨[(4, .ptr 0 0), (5, .ptr 1 0), (6, .ptr 2 0), (7, .ptr 3 0), (48, .cell ⟨.bool, s48⟩)], [.blk 27 [.cell ⟨.int .u64, b0_0⟩, .cell ⟨.int .u64, b0_1⟩], .blk 27 [.cell ⟨.int .u64, b1_0⟩, .cell ⟨.int .u64, b1_1⟩], .blk 27 [.cell ⟨.int .u64, b2_0⟩, .cell ⟨.int .u64, b2_1⟩], .blk 27 [.cell ⟨.int .u64, b3_0⟩, .cell ⟨.int .u64, b3_1⟩]]⟩
theorem ref11_set_eq (n : Nat) (x0 : Bool) (x1 : Span) (x2 : Span) : ref11_set n x0 x1 x2 =
  obind (ref11_single BIG x1) fun y1 =>
  forkB y1
  (obind (ref11_single BIG x2) fun y2 =>
   ref11_set_J0 n x0 y2 x1.Lo x1.Hi x2.Lo x2.Hi (0 : Int) (0 : Int) (0 : Int) (0 : Int))
  (ref11_set_J0 n x0 false x1.Lo x1.Hi x2.Lo x2.Hi (0 : Int) (0 : Int) (0 : Int) (0 : Int)) := by kernel_rfl
theorem ref11_set_J0_eq (n : Nat) (s0 : Bool) (s9 : Bool) (b0_0 : Int) (b0_1 : Int) (b1_0 : Int) (b1_1 : Int) (b2_0 : Int) (b2_1 : Int) (b3_0 : Int) (b3_1 : Int) : ref11_set_J0 (n + 1) s0 s9 b0_0 b0_1 b1_0 b1_1 b2_0 b2_1 b3_0 b3_1 =
  forkB (!s0)
  (forkB (!s9)
   (ref11_set_J1 n true b0_0 b0_1 b1_0 b1_1)
   (ref11_set_J1 n ((bAnd .u64 b0_0 b1_0) == (0 : Int)) b0_0 b0_1 b1_0 b1_1))
  (forkB (b0_1 == (0 : Int))
   (ref11_set_J2 n true b0_0 b0_1 b1_0 b1_1 b2_0 b2_1 b3_0 b3_1)
   (forkB (b1_1 == (0 : Int))
    (ref11_set_J2 n true b0_0 b0_1 b1_0 b1_1 b2_0 b2_1 b3_0 b3_1)
    (forkB s9
     (ref11_set_J2 n ((bAnd .u64 b0_0 b1_0) == (0 : Int)) b0_0 b0_1 b1_0 b1_1 b2_0 b2_1 b3_0 b3_1)
     (ref11_set_J2 n false b0_0 b0_1 b1_0 b1_1 b2_0 b2_1 b3_0 b3_1)))) := by kernel_rfl
theorem ref11_set_J1_eq (n : Nat) (s8 : Bool) (b0_0 : Int) (b0_1 : Int) (b1_0 : Int) (b1_1 : Int) : ref11_set_J1 (n + 1) s8 b0_0 b0_1 b1_0 b1_1 =
  some ((⟨b0_0, b0_1⟩ : Span), (⟨b1_0, b1_1⟩ : Span), s8) := by kernel_rfl
theorem ref11_set_J2_eq (n : Nat) (s48 : Bool) (b0_0 : Int) (b0_1 : Int) (b1_0 : Int) (b1_1 : Int) (b2_0 : Int) (b2_1 : Int) (b3_0 : Int) (b3_1 : Int) : ref11_set_J2 (n + 1) s48 b0_0 b0_1 b1_0 b1_1 b2_0 b2_1 b3_0 b3_1 =
  forkB s48
  (some ((⟨b0_0, b0_1⟩ : Span), (⟨b1_0, b1_1⟩ : Span), false))
  (some ((⟨gMax b0_0 (1 : Int), b0_1⟩ : Span), (⟨gMax b1_0 (1 : Int), b1_1⟩ : Span), true)) := by kernel_rfl
noncomputable def ref11_set_sp : FnSpec TT := ⟨[.val (.bool), .val (.user 0), .val (.user 0)], [.val (.user 0), .val (.user 0), .val (.bool)], fun x => ref11_set BIG x.1 x.2.1 x.2.2⟩
theorem ref11_set_ok : FnOk TT Tryz.prog 41 ref11_set_sp := fnOk_of (C := ref11_set_C) (by kernel_rfl) ref11_set_env Tryz.func41 (show Tryz.f41.body = some (bodyOf Tryz.f41) by kernel_rfl) (by kernel_rfl) (by kernel_rfl) (cuts := ref11_set_cuts) fun x y h => ⟨BIG, h⟩
noncomputable def ref11Meet_C : Ctx TT := ⟨tyOf, [(24, ref11Right_sp.toCall)], 0, [], layOf⟩
theorem ref11Meet_env : EnvOk TT Tryz.prog ref11Meet_C.E := envG (fnCall_ok ref11Right_ok) (envNil)
def ref11Meet_cuts : List (Pos × Cut) := []
noncomputable def ref11Meet (n : Nat) (x0 : Span) (x1 : Span) : Option (Span × Bool) := topF TT Tryz.prog ref11Meet_C ref11Meet_cuts Tryz.f16 (bodyOf Tryz.f16) ⟨[], []⟩ [.val (.user 0), .val (.user 0)] [.val (.user 0), .val (.bool)] n (x0, x1)
theorem ref11Meet_eq (n : Nat) (x0 : Span) (x1 : Span) : ref11Meet n x0 x1 =
  obind (ref11Right BIG (⟨gMax x0.Lo x1.Lo, gMin x0.Hi x1.Hi⟩ : Span)) fun y1 =>
  forkB (!y1)
  (some ((⟨(0 : Int), (0 : Int)⟩ : Span), false))
  (some ((⟨gMax x0.Lo x1.Lo, gMin x0.Hi x1.Hi⟩ : Span), true)) := by kernel_rfl
noncomputable def ref11Meet_sp : FnSpec TT := ⟨[.val (.user 0), .val (.user 0)], [.val (.user 0), .val (.bool)], fun x => ref11Meet BIG x.1 x.2⟩
theorem ref11Meet_ok : FnOk TT Tryz.prog 16 ref11Meet_sp := fnOk_of (C := ref11Meet_C) (by kernel_rfl) ref11Meet_env Tryz.func16 (show Tryz.f16.body = some (bodyOf Tryz.f16) by kernel_rfl) (by kernel_rfl) (by kernel_rfl) (cuts := ref11Meet_cuts) fun x y h => ⟨BIG, h⟩
noncomputable def ref11_without_C : Ctx TT := ⟨tyOf, [(58, ref11_single_sp.toCall)], 0, [], layOf⟩
theorem ref11_without_env : EnvOk TT Tryz.prog ref11_without_C.E := envG (fnCall_ok ref11_single_ok) (envNil)
def ref11_without_cuts : List (Pos × Cut) := [([true, true], ⟨[1, 2, 4], [], false, []⟩)]
noncomputable def ref11_without (n : Nat) (x0 : Span) (x1 : Int) : Option (Span) := topF TT Tryz.prog ref11_without_C ref11_without_cuts Tryz.f67 (bodyOf Tryz.f67) ⟨[], []⟩ [.val (.user 0), .val (.int .u64)] [.val (.user 0)] n (x0, x1)
noncomputable def ref11_without_J0 (n : Nat) (s1 : Int) (b0_0 : Int) (b0_1 : Int) (b1_0 : Int) (b1_1 : Int) : Option (Span) := cutF TT Tryz.prog ref11_without_C ref11_without_cuts Tryz.f67 (bodyOf Tryz.f67) ⟨[], []⟩ [.val (.user 0), .val (.int .u64)] [.val (.user 0)] n [true, true] ⟨[(1, .cell ⟨.int .u64, s1⟩), (2, .ptr 0 0), (4, .ptr 1 0)], [.blk 27 [.cell ⟨.int .u64, b0_0⟩, .cell ⟨.int .u64, b0_1⟩], .blk 27 [.cell ⟨.int .u64, b1_0⟩, .cell ⟨.int .u64, b1_1⟩]]⟩
theorem ref11_without_eq (n : Nat) (x0 : Span) (x1 : Int) : ref11_without n x0 x1 =
  obind (ref11_single BIG x0) fun y1 =>
  forkB y1
  (some x0)
  (forkB (x0.Lo == x1)
   (ref11_without_J0 n x1 (IntKind.u64.wrap (x0.Lo + (1 : Int))) x0.Hi (0 : Int) (0 : Int))
   (ref11_without_J0 n x1 x0.Lo x0.Hi (0 : Int) (0 : Int))) := by kernel_rfl
theorem ref11_without_J0_eq (n : Nat) (s1 : Int) (b0_0 : Int) (b0_1 : Int) (b1_0 : Int) (b1_1 : Int) : ref11_without_J0 (n + 1) s1 b0_0 b0_1 b1_0 b1_1 =
  forkB (b0_1 == s1)
  (some (⟨b0_0, IntKind.u64.wrap (b0_1 - (1 : Int))⟩ : Span))
  (some (⟨b0_0, b0_1⟩ : Span)) := by kernel_rfl
noncomputable def ref11_without_sp : FnSpec TT := ⟨[.val (.user 0), .val (.int .u64)], [.val (.user 0)], fun x => ref11_without BIG x.1 x.2⟩
theorem ref11_without_ok : FnOk TT Tryz.prog 67 ref11_without_sp := fnOk_of (C := ref11_without_C) (by kernel_rfl) ref11_without_env Tryz.func67 (show Tryz.f67.body = some (bodyOf Tryz.f67) by kernel_rfl) (by kernel_rfl) (by kernel_rfl) (cuts := ref11_without_cuts) fun x y h => ⟨BIG, h⟩
noncomputable def ref11_asked_r_C : Ctx TT := ⟨tyOf, [(16, ref11Meet_sp.toCall), (58, ref11_single_sp.toCall), (67, ref11_without_sp.toCall)], 0, [(4, 1), (6, 1), (11, 1), (14, 1), (15, 1), (17, 1)], layOf⟩
theorem ref11_asked_r_env : EnvOk TT Tryz.prog ref11_asked_r_C.E := envG (fnCall_ok ref11Meet_ok) (envG (fnCall_ok ref11_single_ok) (envG (fnCall_ok ref11_without_ok) (envNil)))
def ref11_asked_r_cuts : List (Pos × Cut) := [([true, false, true, true, true, false, true, false, true], ⟨[4, 5, 6, 7, 11, 12], [], false, []⟩), ([true, true, false, true, true, true, false, true, false, true], ⟨[4, 5, 6, 7, 11, 12], [], false, []⟩), ([true, true, true, false, true, true, true, false, true, false, true], ⟨[6, 7, 8], [], false, []⟩)]
noncomputable def ref11_asked_r (n : Nat) (x0 : Int) (x1 : Span) (x2 : Span) : Option (Span × Span × Bool) := topF TT Tryz.prog ref11_asked_r_C ref11_asked_r_cuts Tryz.f43 (bodyOf Tryz.f43) ⟨[], []⟩ [.val (.int .u8), .val (.user 0), .val (.user 0)] [.val (.user 0), .val (.user 0), .val (.bool)] n (x0, x1, x2)
noncomputable def ref11_asked_r_J0 (n : Nat) (b0_0 : Int) (b0_1 : Int) (b1_0 : Int) (b1_1 : Int) (b2_0 : Int) (b2_1 : Int) (b3_0 : Int) (b3_1 : Int) (b4_0 : Int) (b4_1 : Int) (b5_0 : Int) (b5_1 : Int) : Option (Span × Span × Bool) := cutF TT Tryz.prog ref11_asked_r_C ref11_asked_r_cuts Tryz.f43 (bodyOf Tryz.f43) ⟨[], []⟩ [.val (.int .u8), .val (.user 0), .val (.user 0)] [.val (.user 0), .val (.user 0), .val (.bool)] n [true, false, true, true, true, false, true, false, true] ⟨[(4, .ptr 0 0), (5, .ptr 1 0), (6, .ptr 2 0), (7, .ptr 3 0), (11, .ptr 4 0), (12, .ptr 5 0)], [.blk 27 [.cell ⟨.int .u64, b0_0⟩, .cell ⟨.int .u64, b0_1⟩], .blk 27 [.cell ⟨.int .u64, b1_0⟩, .cell ⟨.int .u64, b1_1⟩], .blk 27 [.cell ⟨.int .u64, b2_0⟩, .cell ⟨.int .u64, b2_1⟩], .blk 27 [.cell ⟨.int .u64, b3_0⟩, .cell ⟨.int .u64, b3_1⟩], .blk 27 [.cell ⟨.int .u64, b4_0⟩, .cell ⟨.int .u64, b4_1⟩], .blk 27 [.cell ⟨.int .u64, b5_0⟩, .cell ⟨.int .u64, b5_1⟩]]⟩
noncomputable def ref11_asked_r_J1 (n : Nat) (b0_0 : Int) (b0_1 : Int) (b1_0 : Int) (b1_1 : Int) (b2_0 : Int) (b2_1 : Int) (b3_0 : Int) (b3_1 : Int) (b4_0 : Int) (b4_1 : Int) (b5_0 : Int) (b5_1 : Int) : Option (Span × Span × Bool) := cutF TT Tryz.prog ref11_asked_r_C ref11_asked_r_cuts Tryz.f43 (bodyOf Tryz.f43) ⟨[], []⟩ [.val (.int .u8), .val (.user 0), .val (.user 0)] [.val (.user 0), .val (.user 0), .val (.bool)] n [true, true, false, true, true, true, false, true, false, true] ⟨[(4, .ptr 0 0), (5, .ptr 1 0), (6, .ptr 2 0), (7, .ptr 3 0), (11, .ptr 4 0), (12, .ptr 5 0)], [.blk 27 [.cell ⟨.int .u64, b0_0⟩, .cell ⟨.int .u64, b0_1⟩], .blk 27 [.cell ⟨.int .u64, b1_0⟩, .cell ⟨.int .u64, b1_1⟩], .blk 27 [.cell ⟨.int .u64, b2_0⟩, .cell ⟨.int .u64, b2_1⟩], .blk 27 [.cell ⟨.int .u64, b3_0⟩, .cell ⟨.int .u64, b3_1⟩], .blk 27 [.cell ⟨.int .u64, b4_0⟩, .cell ⟨.int .u64, b4_1⟩], .blk 27 [.cell ⟨.int .u64, b5_0⟩, .cell ⟨.int .u64, b5_1⟩]]⟩
noncomputable def ref11_asked_r_J2 (n : Nat) (s8 : Bool) (b0_0 : Int) (b0_1 : Int) (b1_0 : Int) (b1_1 : Int) : Option (Span × Span × Bool) := cutF TT Tryz.prog ref11_asked_r_C ref11_asked_r_cuts Tryz.f43 (bodyOf Tryz.f43) ⟨[], []⟩ [.val (.int .u8), .val (.user 0), .val (.user 0)] [.val (.user 0), .val (.user 0), .val (.bool)] n [true, true, true, false, true, true, true, false, true, false, true] ⟨[(6, .ptr 0 0), (7, .ptr 1 0), (8, .cell ⟨.bool, s8⟩)], [.blk 27 [.cell ⟨.int .u64, b0_0⟩, .cell ⟨.int .u64, b0_1⟩], .blk 27 [.cell ⟨.int .u64, b1_0⟩, .cell ⟨.int .u64, b1_1⟩]]⟩
theorem ref11_asked_r_eq (n : Nat) (x0 : Int) (x1 : Span) (x2 : Span) : ref11_asked_r n x0 x1 x2 =
  forkB (x0 == (17 : Int))
  (obind (ref11Meet BIG x1 x2) fun y1 =>
   some (y1.1, y1.1, y1.2))
  (forkB (x0 == (18 : Int))
   (obind (ref11_single BIG x2) fun y2 =>
    forkB y2
    (obind (ref11_without BIG x1 x2.Lo) fun y3 =>
     ref11_asked_r_J0 n x1.Lo x1.Hi x2.Lo x2.Hi (0 : Int) (0 : Int) (0 : Int) (0 : Int) y3.Lo y3.Hi x2.Lo x2.Hi)
    (ref11_asked_r_J0 n x1.Lo x1.Hi x2.Lo x2.Hi (0 : Int) (0 : Int) (0 : Int) (0 : Int) x1.Lo x1.Hi x2.Lo x2.Hi))
   (forkB (x0 == (19 : Int))
    (forkB (decide (x1.Hi ≤ x2.Lo))
     (some (x1, x2, false))
     (some ((⟨gMax x1.Lo (IntKind.u64.wrap (x2.Lo + (1 : Int))), x1.Hi⟩ : Span), (⟨x2.Lo, gMin x2.Hi (IntKind.u64.wrap (x1.Hi - (1 : Int)))⟩ : Span), true)))
    (forkB (x0 == (20 : Int))
     (some ((⟨gMax x1.Lo x2.Lo, x1.Hi⟩ : Span), (⟨x2.Lo, gMin x2.Hi x1.Hi⟩ : Span), decide (x1.Hi ≥ x2.Lo)))
     (forkB (x0 == (21 : Int))
      (none)
      (none))))) := by kernel_rfl
theorem ref11_asked_r_J0_eq (n : Nat) (b0_0 : Int) (b0_1 : Int) (b1_0 : Int) (b1_1 : Int) (b2_0 : Int) (b2_1 : Int) (b3_0 : Int) (b3_1 : Int) (b4_0 : Int) (b4_1 : Int) (b5_0 : Int) (b5_1 : Int) : ref11_asked_r_J0 (n + 1) b0_0 b0_1 b1_0 b1_1 b2_0 b2_1 b3_0 b3_1 b4_0 b4_1 b5_0 b5_1 =
  obind (ref11_single BIG (⟨b0_0, b0_1⟩ : Span)) fun y1 =>
  forkB y1
  (obind (ref11_without BIG (⟨b1_0, b1_1⟩ : Span) b0_0) fun y2 =>
   ref11_asked_r_J1 n b0_0 b0_1 b1_0 b1_1 b2_0 b2_1 b3_0 b3_1 b4_0 b4_1 y2.Lo y2.Hi)
  (ref11_asked_r_J1 n b0_0 b0_1 b1_0 b1_1 b2_0 b2_1 b3_0 b3_1 b4_0 b4_1 b5_0 b5_1) := by kernel_rfl
theorem ref11_asked_r_J1_eq (n : Nat) (b0_0 : Int) (b0_1 : Int) (b1_0 : Int) (b1_1 : Int) (b2_0 : Int) (b2_1 : Int) (b3_0 : Int) (b3_1 : Int) (b4_0 : Int) (b4_1 : Int) (b5_0 : Int) (b5_1 : Int) : ref11_asked_r_J1 (n + 1) b0_0 b0_1 b1_0 b1_1 b2_0 b2_1 b3_0 b3_1 b4_0 b4_1 b5_0 b5_1 =
  obind (ref11_single BIG (⟨b0_0, b0_1⟩ : Span)) fun y1 =>
  forkB (!y1)
  (ref11_asked_r_J2 n true b4_0 b4_1 b5_0 b5_1)
  (obind (ref11_single BIG (⟨b1_0, b1_1⟩ : Span)) fun y2 =>
   forkB (!y2)
   (ref11_asked_r_J2 n true b4_0 b4_1 b5_0 b5_1)
   (ref11_asked_r_J2 n (b0_0 != b1_0) b4_0 b4_1 b5_0 b5_1)) := by kernel_rfl
theorem ref11_asked_r_J2_eq (n : Nat) (s8 : Bool) (b0_0 : Int) (b0_1 : Int) (b1_0 : Int) (b1_1 : Int) : ref11_asked_r_J2 (n + 1) s8 b0_0 b0_1 b1_0 b1_1 =
  some ((⟨b0_0, b0_1⟩ : Span), (⟨b1_0, b1_1⟩ : Span), s8) := by kernel_rfl
noncomputable def ref11_asked_r_sp : FnSpec TT := ⟨[.val (.int .u8), .val (.user 0), .val (.user 0)], [.val (.user 0), .val (.user 0), .val (.bool)], fun x => ref11_asked_r BIG x.1 x.2.1 x.2.2⟩
theorem ref11_asked_r_ok : FnOk TT Tryz.prog 43 ref11_asked_r_sp := fnOk_of (C := ref11_asked_r_C) (by kernel_rfl) ref11_asked_r_env Tryz.func43 (show Tryz.f43.body = some (bodyOf Tryz.f43) by kernel_rfl) (by kernel_rfl) (by kernel_rfl) (cuts := ref11_asked_r_cuts) fun x y h => ⟨BIG, h⟩
noncomputable def ref11_asked_C : Ctx TT := ⟨tyOf, [(16, ref11Meet_sp.toCall), (58, ref11_single_sp.toCall), (67, ref11_without_sp.toCall), (43, ref11_asked_r_sp.toCall)], 0, [(4, 1), (6, 1), (11, 1), (14, 1), (15, 1), (17, 1), (20, 1), (22, 1)], layOf⟩
theorem ref11_asked_env : EnvOk TT Tryz.prog ref11_asked_C.E := envG (fnCall_ok ref11Meet_ok) (envG (fnCall_ok ref11_single_ok) (envG (fnCall_ok ref11_without_ok) (envG (fnCall_ok ref11_asked_r_ok) (envNil))))
def ref11_asked_cuts : List (Pos × Cut) := [([true, false, true, true, true, false, true, false, true], ⟨[4, 5, 6, 7, 11, 12], [], false, []⟩), ([true, true, false, true, true, true, false, true, false, true], ⟨[4, 5, 6, 7, 11, 12], [], false, []⟩), ([true, true, true, false, true, true, true, false, true, false, true], ⟨[6, 7, 8], [], false, []⟩)]
noncomputable def ref11_asked (n : Nat) (x0 : Int) (x1 : Span) (x2 : Span) : Option (Span × Span × Bool) := topF TT Tryz.prog ref11_asked_C ref11_asked_cuts Tryz.f43 (bodyOf Tryz.f43) ⟨[], []⟩ [.val (.int .u8), .val (.user 0), .val (.user 0)] [.val (.user 0), .val (.user 0), .val (.bool)] n (x0, x1, x2)
noncomputable def ref11_asked_J0 (n : Nat) (b0_0 : Int) (b0_1 : Int) (b1_0 : Int) (b1_1 : Int) (b2_0 : Int) (b2_1 : Int) (b3_0 : Int) (b3_1 : Int) (b4_0 : Int) (b4_1 : Int) (b5_0 : Int) (b5_1 : Int) : Option (Span × Span × Bool) := cutF TT Tryz.prog ref11_asked_C ref11_asked_cuts Tryz.f43 (bodyOf Tryz.f43) ⟨[], []⟩ [.val (.int .u8), .val (.user 0), .val (.user 0)] [.val (.user 0), .val (.user 0), .val (.bool)] n [true, false, true, true, true, false, true, false, true] ⟨[(4, .ptr 0 0), (5, .ptr 1 0), (6, .ptr 2 0), (7, .ptr 3 0), (11, .ptr 4 0), (12, .ptr 5 0)], [.blk 27 [.cell ⟨.int .u64, b0_0⟩, .cell ⟨.int .u64, b0_1⟩], .blk 27 [.cell ⟨.int .u64, b1_0⟩, .cell ⟨.int .u64, b1_1⟩], .blk 27 [.cell ⟨.int .u64, b2_0⟩, .cell ⟨.int .u64, b2_1⟩], .blk 27 [.cell ⟨.int .u64, b3_0⟩, .cell ⟨.int .u64, b3_1⟩], .blk 27 [.cell ⟨.int .u64, b4_0⟩, .cell ⟨.int .u64, b4_1⟩], .blk 27 [.cell ⟨.int .u64, b5_0⟩, .cell ⟨.int .u64, b5_1⟩]]⟩
noncomputable def ref11_asked_J1 (n : Nat) (b0_0 : Int) (b0_1 : Int) (b1_0 : Int) (b1_1 : Int) (b2_0 : Int) (b2_1 : Int) (b3_0 : Int) (b3_1 : Int) (b4_0 : Int) (b4_1 : Int) (b5_0 : Int) (b5_1 : Int) : Option (Span × Span × Bool) := cutF TT Tryz.prog ref11_asked_C ref11_asked_cuts Tryz.f43 (bodyOf Tryz.f43) ⟨[], []⟩ [.val (.int .u8), .val (.user 0), .val (.user 0)] [.val (.user 0), .val (.user 0), .val (.bool)] n [true, true, false, true, true, true, false, true, false, true] ⟨[(4, .ptr 0 0), (5, .ptr 1 0), (6, .ptr 2 0), (7, .ptr 3 0), (11, .ptr 4 0), (12, .ptr 5 0)], [.blk 27 [.cell ⟨.int .u64, b0_0⟩, .cell ⟨.int .u64, b0_1⟩], .blk 27 [.cell ⟨.int .u64, b1_0⟩, .cell ⟨.int .u64, b1_1⟩], .blk 27 [.cell ⟨.int .u64, b2_0⟩, .cell ⟨.int .u64, b2_1⟩], .blk 27 [.cell ⟨.int .u64, b3_0⟩, .cell ⟨.int .u64, b3_1⟩], .blk 27 [.cell ⟨.int .u64, b4_0⟩, .cell ⟨.int .u64, b4_1⟩], .blk 27 [.cell ⟨.int .u64, b5_0⟩, .cell ⟨.int .u64, b5_1⟩]]⟩
noncomputable def ref11_asked_J2 (n : Nat) (s8 : Bool) (b0_0 : Int) (b0_1 : Int) (b1_0 : Int) (b1_1 : Int) : Option (Span × Span × Bool) := cutF TT Tryz.prog ref11_asked_C ref11_asked_cuts Tryz.f43 (bodyOf Tryz.f43) ⟨[], []⟩ [.val (.int .u8), .val (.user 0), .val (.user 0)] [.val (.user 0), .val (.user 0), .val (.bool)] n [true, true, true, false, true, true, true, false, true, false, true] ⟨[(6, .ptr 0 0), (7, .ptr 1 0), (8, .cell ⟨.bool, s8⟩)], [.blk 27 [.cell ⟨.int .u64, b0_0⟩, .cell ⟨.int .u64, b0_1⟩], .blk 27 [.cell ⟨.int .u64, b1_0⟩, .cell ⟨.int .u64, b1_1⟩]]⟩
theorem ref11_asked_eq (n : Nat) (x0 : Int) (x1 : Span) (x2 : Span) : ref11_asked n x0 x1 x2 =
  forkB (x0 == (17 : Int))
  (obind (ref11Meet BIG x1 x2) fun y1 =>
   some (y1.1, y1.1, y1.2))
  (forkB (x0 == (18 : Int))
   (obind (ref11_single BIG x2) fun y2 =>
    forkB y2
    (obind (ref11_without BIG x1 x2.Lo) fun y3 =>
     ref11_asked_J0 n x1.Lo x1.Hi x2.Lo x2.Hi (0 : Int) (0 : Int) (0 : Int) (0 : Int) y3.Lo y3.Hi x2.Lo x2.Hi)
    (ref11_asked_J0 n x1.Lo x1.Hi x2.Lo x2.Hi (0 : Int) (0 : Int) (0 : Int) (0 : Int) x1.Lo x1.Hi x2.Lo x2.Hi))
   (forkB (x0 == (19 : Int))
    (forkB (decide (x1.Hi ≤ x2.Lo))
     (some (x1, x2, false))
     (some ((⟨gMax x1.Lo (IntKind.u64.wrap (x2.Lo + (1 : Int))), x1.Hi⟩ : Span), (⟨x2.Lo, gMin x2.Hi (IntKind.u64.wrap (x1.Hi - (1 : Int)))⟩ : Span), true)))
    (forkB (x0 == (20 : Int))
     (some ((⟨gMax x1.Lo x2.Lo, x1.Hi⟩ : Span), (⟨x2.Lo, gMin x2.Hi x1.Hi⟩ : Span), decide (x1.Hi ≥ x2.Lo)))
     (forkB (x0 == (21 : Int))
      (obind (ref11_asked_r BIG (19 : Int) x2 x1) fun y4 =>
       some (y4.2.1, y4.1, y4.2.2))
      (obind (ref11_asked_r BIG (20 : Int) x2 x1) fun y5 =>
       some (y5.2.1, y5.1, y5.2.2)))))) := by kernel_rfl
theorem ref11_asked_J0_eq (n : Nat) (b0_0 : Int) (b0_1 : Int) (b1_0 : Int) (b1_1 : Int) (b2_0 : Int) (b2_1 : Int) (b3_0 : Int) (b3_1 : Int) (b4_0 : Int) (b4_1 : Int) (b5_0 : Int) (b5_1 : Int) : ref11_asked_J0 (n + 1) b0_0 b0_1 b1_0 b1_1 b2_0 b2_1 b3_0 b3_1 b4_0 b4_1 b5_0 b5_1 =
  obind (ref11_single BIG (⟨b0_0, b0_1⟩ : Span)) fun y1 =>
  forkB y1
  (obind (ref11_without BIG (⟨b1_0, b1_1⟩ : Span) b0_0) fun y2 =>
   ref11_asked_J1 n b0_0 b0_1 b1_0 b1_1 b2_0 b2_1 b3_0 b3_1 b4_0 b4_1 y2.Lo y2.Hi)
  (ref11_asked_J1 n b0_0 b0_1 b1_0 b1_1 b2_0 b2_1 b3_0 b3_1 b4_0 b4_1 b5_0 b5_1) := by kernel_rfl
theorem ref11_asked_J1_eq (n : Nat) (b0_0 : Int) (b0_1 : Int) (b1_0 : Int) (b1_1 : Int) (b2_0 : Int) (b2_1 : Int) (b3_0 : Int) (b3_1 : Int) (b4_0 : Int) (b4_1 : Int) (b5_0 : Int) (b5_1 : Int) : ref11_asked_J1 (n + 1) b0_0 b0_1 b1_0 b1_1 b2_0 b2_1 b3_0 b3_1 b4_0 b4_1 b5_0 b5_1 =
  obind (ref11_single BIG (⟨b0_0, b0_1⟩ : Span)) fun y1 =>
  forkB (!y1)
  (ref11_asked_J2 n true b4_0 b4_1 b5_0 b5_1)
  (obind (ref11_single BIG (⟨b1_0, b1_1⟩ : Span)) fun y2 =>
   forkB (!y2)
   (ref11_asked_J2 n true b4_0 b4_1 b5_0 b5_1)
   (ref11_asked_J2 n (b0_0 != b1_0) b4_0 b4_1 b5_0 b5_1)) := by kernel_rfl
theorem ref11_asked_J2_eq (n : Nat) (s8 : Bool) (b0_0 : Int) (b0_1 : Int) (b1_0 : Int) (b1_1 : Int) : ref11_asked_J2 (n + 1) s8 b0_0 b0_1 b1_0 b1_1 =
  some ((⟨b0_0, b0_1⟩ : Span), (⟨b1_0, b1_1⟩ : Span), s8) := by kernel_rfl
noncomputable def ref11_asked_sp : FnSpec TT := ⟨[.val (.int .u8), .val (.user 0), .val (.user 0)], [.val (.user 0), .val (.user 0), .val (.bool)], fun x => ref11_asked BIG x.1 x.2.1 x.2.2⟩
theorem ref11_asked_ok : FnOk TT Tryz.prog 43 ref11_asked_sp := fnOk_of (C := ref11_asked_C) (by kernel_rfl) ref11_asked_env Tryz.func43 (show Tryz.f43.body = some (bodyOf Tryz.f43) by kernel_rfl) (by kernel_rfl) (by kernel_rfl) (cuts := ref11_asked_cuts) fun x y h => ⟨BIG, h⟩
noncomputable def ref11_signed_C : Ctx TT := ⟨tyOf, [(62, ref11_below_sp.toCall), (43, ref11_asked_sp.toCall)], 0, [(2, 1), (6, 1)], layOf⟩
theorem ref11_signed_env : EnvOk TT Tryz.prog ref11_signed_C.E := envG (fnCall_ok ref11_below_ok) (envG (fnCall_ok ref11_asked_ok) (envNil))
def ref11_signed_cuts : List (Pos × Cut) := [([false, true], ⟨[0, 1, 6, 7, 8, 9, 31], [], false, []⟩), ([true, true, true], ⟨[1, 6, 7, 8, 9, 11], [], false, []⟩)]
noncomputable def ref11_signed (n : Nat) (x0 : Int) (x1 : Bool) (x2 : Span) (x3 : Span) : Option (Span × Span × Bool) := topF TT Tryz.prog ref11_signed_C ref11_signed_cuts Tryz.f42 (bodyOf Tryz.f42) ⟨[], []⟩ [.val (.int .u8), .val (.bool), .val (.user 0), .val (.user 0)] [.val (.user 0), .val (.user 0), .val (.bool)] n (x0, x1, x2, x3)
noncomputable def ref11_signed_J0 (n : Nat) (s0 : Int) (s1 : Bool) (s31 : Bool) (b0_0 : Int) (b0_1 : Int) (b1_0 : Int) (b1_1 : Int) (b2_0 : Int) (b2_1 : Int) (b3_0 : Int) (b3_1 : Int) : Option (Span × Span × Bool) := cutF TT Tryz.prog ref11_signed_C ref11_signed_cuts Tryz.f42 (bodyOf Tryz.f42) ⟨[], []⟩ [.val (.int .u8), .val (.bool), .val (.user 0), .val (.user 0)] [.val (.user 0), .val (.user 0), .val (.bool)] n [false, true] ⟨[(0, .cell ⟨.int .u8, s0⟩), (1, .cell ⟨.bool, s1⟩), (6, .ptr 0 0), (7, .ptr 1 0), (8, .ptr 2 0), (9, .ptr 3 0), (31, .cell ⟨.bool, s31⟩)], [.blk 27 [.cell ⟨.int .u64, b0_0⟩, .cell ⟨.int .u64, b0_1⟩], .blk 27 [.cell ⟨.int .u64, b1_0⟩, .cell ⟨.int .u64, b1_1⟩], .blk 27 [.cell ⟨.int .u64, b2_0⟩, .cell ⟨.int .u64, b2_1⟩], .blk 27 [.cell ⟨.int .u64, b3_0⟩, .cell ⟨.int .u64, b3_1⟩]]⟩
noncomputable def ref11_signed_J1 (n : Nat) (s1 : Bool) (s11 : Bool) (b0_0 : Int) (b0_1 : Int) (b1_0 : Int) (b1_1 : Int) (b2_0 : Int) (b2_1 : Int) (b3_0 : Int) (b3_1 : Int) : Option (Span × Span × Bool) := cutF TT Tryz.prog ref11_signed_C ref11_signed_cuts Tryz.f42 (bodyOf Tryz.f42) ⟨[], []⟩ [.val (.int .u8), .val (.bool), .val (.user 0), .val (.user 0)] [.val (.user 0), .val (.user 0), .val (.bool)] n [true, true, true] ⟨[(1, .cell ⟨.bool, s1⟩), (6, .ptr 0 0), (7, .ptr 1 0), (8, .ptr 2 0), (9, .ptr 3 0), (11, .cell ⟨.bool, s11⟩)], [.blk 27 [.cell ⟨.int .u64, b0_0⟩, .cell ⟨.int .u64, b0_1⟩], .blk 27 [.cell ⟨.int .u64, b1_0⟩, .cell ⟨.int .u64, b1_1⟩], .blk 27 [.cell ⟨.int .u64, b2_0⟩, .cell ⟨.int .u64, b2_1⟩], .blk 27 [.cell ⟨.int .u64, b3_0⟩, .cell ⟨.int .u64, b3_1⟩]]⟩
theorem ref11_signed_eq (n : Nat) (x0 : Int) (x1 : Bool) (x2 : Span) (x3 : Span) : ref11_signed n x0 x1 x2 x3 =
  obind (ref11_below BIG x2.Lo x1) fun y1 =>
  obind (ref11_below BIG x2.Hi x1) fun y2 =>
  forkB (!(y1 == y2))
  (ref11_signed_J0 n x0 x1 true x2.Lo x2.Hi x3.Lo x3.Hi (0 : Int) (0 : Int) (0 : Int) (0 : Int))
  (obind (ref11_below BIG x3.Lo x1) fun y3 =>
   obind (ref11_below BIG x3.Hi x1) fun y4 =>
   ref11_signed_J0 n x0 x1 (!(y3 == y4)) x2.Lo x2.Hi x3.Lo x3.Hi (0 : Int) (0 : Int) (0 : Int) (0 : Int)) := by kernel_rfl
theorem ref11_signed_J0_eq (n : Nat) (s0 : Int) (s1 : Bool) (s31 : Bool) (b0_0 : Int) (b0_1 : Int) (b1_0 : Int) (b1_1 : Int) (b2_0 : Int) (b2_1 : Int) (b3_0 : Int) (b3_1 : Int) : ref11_signed_J0 (n + 1) s0 s1 s31 b0_0 b0_1 b1_0 b1_1 b2_0 b2_1 b3_0 b3_1 =
  forkB s31
  (some ((⟨b0_0, b0_1⟩ : Span), (⟨b1_0, b1_1⟩ : Span), true))
  (obind (ref11_below BIG b0_0 s1) fun y1 =>
   obind (ref11_below BIG b1_0 s1) fun y2 =>
   forkB (y1 == y2)
   (obind (ref11_asked BIG (IntKind.u8.wrap ((IntKind.u8.wrap (s0 - (23 : Int))) + (19 : Int))) (⟨b0_0, b0_1⟩ : Span) (⟨b1_0, b1_1⟩ : Span)) fun y3 =>
    some (y3.1, y3.2.1, y3.2.2))
   (forkB (s0 == (23 : Int))
    (ref11_signed_J1 n s1 true b0_0 b0_1 b1_0 b1_1 b2_0 b2_1 b3_0 b3_1)
    (ref11_signed_J1 n s1 (s0 == (24 : Int)) b0_0 b0_1 b1_0 b1_1 b2_0 b2_1 b3_0 b3_1))) := by kernel_rfl
theorem ref11_signed_J1_eq (n : Nat) (s1 : Bool) (s11 : Bool) (b0_0 : Int) (b0_1 : Int) (b1_0 : Int) (b1_1 : Int) (b2_0 : Int) (b2_1 : Int) (b3_0 : Int) (b3_1 : Int) : ref11_signed_J1 (n + 1) s1 s11 b0_0 b0_1 b1_0 b1_1 b2_0 b2_1 b3_0 b3_1 =
  obind (ref11_below BIG b0_0 s1) fun y1 =>
  some ((⟨b0_0, b0_1⟩ : Span), (⟨b1_0, b1_1⟩ : Span), !(s11 == y1)) := by kernel_rfl
noncomputable def ref11_signed_sp : FnSpec TT := ⟨[.val (.int .u8), .val (.bool), .val (.user 0), .val (.user 0)], [.val (.user 0), .val (.user 0), .val (.bool)], fun x => ref11_signed BIG x.1 x.2.1 x.2.2.1 x.2.2.2⟩
theorem ref11_signed_ok : FnOk TT Tryz.prog 42 ref11_signed_sp := fnOk_of (C := ref11_signed_C) (by kernel_rfl) ref11_signed_env Tryz.func42 (show Tryz.f42.body = some (bodyOf Tryz.f42) by kernel_rfl) (by kernel_rfl) (by kernel_rfl) (cuts := ref11_signed_cuts) fun x y h => ⟨BIG, h⟩
noncomputable def ref11If_C : Ctx TT := ⟨tyOf, [(24, ref11Right_sp.toCall), (32, ref11_cut_sp.toCall), (40, ref11_opposite_sp.toCall), (41, ref11_set_sp.toCall), (42, ref11_signed_sp.toCall), (43, ref11_asked_sp.toCall), (34, ref11_most_sp.toCall)], 0, [(2, 1), (3, 1), (19, 1)], layOf⟩
theorem ref11If_env : EnvOk TT Tryz.prog ref11If_C.E := envG (fnCall_ok ref11Right_ok) (envG (fnCall_ok ref11_cut_ok) (envG (fnCall_ok ref11_opposite_ok) (envG (fnCall_ok ref11_set_ok) (envG (fnCall_ok ref11_signed_ok) (envG (fnCall_ok ref11_asked_ok) (envG (fnCall_ok ref11_most_ok) (envNil)))))))
def ref11If_cuts : List (Pos × Cut) := [([false, true], ⟨[0, 1, 2, 8, 9, 10, 11, 33], [], false, []⟩), ([true, true, true, true, true], ⟨[0, 1, 2, 8, 9, 10, 11, 13, 14, 15, 16], [], false, []⟩), ([false, true, true, true, true, true], ⟨[0, 1, 2, 8, 9, 10, 11, 13, 14, 15, 16, 47], [], false, []⟩), ([true, true, true, true, true, true], ⟨[1, 8, 9, 10, 11, 15, 16, 17], [], false, []⟩), ([true, true, true, true, true, true, true, true], ⟨[1, 9, 10, 11, 15, 16], [], false, []⟩)]
noncomputable def ref11If (n : Nat) (x0 : Int) (x1 : Bool) (x2 : Bool) (x3 : Span) (x4 : Span) : Option (Span × Span × Bool) := topF TT Tryz.prog ref11If_C ref11If_cuts Tryz.f14 (bodyOf Tryz.f14) ⟨[], []⟩ [.val (.int .u8), .val (.bool), .val (.bool), .val (.user 0), .val (.user 0)] [.val (.user 0), .val (.user 0), .val (.bool)] n (x0, x1, x2, x3, x4)
noncomputable def ref11If_J0 (n : Nat) (s0 : Int) (s1 : Bool) (s2 : Bool) (s33 : Bool) (b0_0 : Int) (b0_1 : Int) (b1_0 : Int) (b1_1 : Int) (b2_0 : Int) (b2_1 : Int) (b3_0 : Int) (b3_1 : Int) : Option (Span × Span × Bool) := cutF TT Tryz.prog ref11If_C ref11If_cuts Tryz.f14 (bodyOf Tryz.f14) ⟨[], []⟩ [.val (.int .u8), .val (.bool), .val (.bool), .val (.user 0), .val (.user 0)] [.val (.user 0), .val (.user 0), .val (.bool)] n [false, true] ⟨[(0, .cell ⟨.int .u8, s0⟩), (1, .cell ⟨.bool, s1⟩), (2, .cell ⟨.bool, s2⟩), (8, .ptr 0 0), (9, .ptr 1 0), (10, .ptr 2 0), (11, .ptr 3 0), (33, .cell ⟨.bool, s33⟩)], [.blk 27 [.cell ⟨.int .u64, b0_0⟩, .cell ⟨.int .u64, b0_1⟩], .blk 27 [.cell ⟨.int .u64, b1_0⟩, .cell ⟨.int .u64, b1_1⟩], .blk 27 [.cell ⟨.int .u64, b2_0⟩, .cell ⟨.int .u64, b2_1⟩], .blk 27 [.cell ⟨.int .u64, b3_0⟩, .cell ⟨.int .u64, b3_1⟩]]⟩
noncomputable def ref11If_J2 (n : Nat) (s0 : Int) (s1 : Bool) (s2 : Bool) (s47 : Bool) (b0_0 : Int) (b0_1 : Int) (b1_0 : Int) (b1_1 : Int) (b2_0 : Int) (b2_1 : Int) (b3_0 : Int) (b3_1 : Int) (b4_0 : Int) (b4_1 : Int) (b5_0 : Int) (b5_1 : Int) (b6_0 : Int) (b6_1 : Int) (b7_0 : Int) (b7_1 : Int) : Option (Span × Span × Bool) := cutF TT Tryz.prog ref11If_C ref11If_cuts Tryz.f14 (bodyOf Tryz.f14) ⟨[], []⟩ [.val (.int .u8), .val (.bool), .val (.bool), .val (.user 0), .val (.user 0)] [.val (.user 0), .val (.user 0), .val (.bool)] n [false, true, true, true, true, true] ⟨[(0, .cell ⟨.int .u8, s0⟩), (1, .cell ⟨.bool, s1⟩), (2, .cell ⟨.bool, s2⟩), (8, .ptr 0 0), (9, .ptr 1 0), (10, .ptr 2 0), (11, .ptr 3 0), (13, .ptr 4 0), (14, .ptr 5 0), (15, .ptr 6 0), (16, .ptr 7 0), (47, .cell ⟨.bool, s47⟩)], [.blk 27 [.cell ⟨.int .u64, b0_0⟩, .cell ⟨.int .u64, b0_1⟩], .blk 27 [.cell ⟨.int .u64, b1_0⟩, .cell ⟨.int .u64, b1_1⟩], .blk 27 [.cell ⟨.int .u64, b2_0⟩, .cell ⟨.int .u64, b2_1⟩], .blk 27 [.cell ⟨.int .u64, b3_0⟩, .cell ⟨.int .u64, b3_1⟩], .blk 27 [.cell ⟨.int .u64, b4_0⟩, .cell ⟨.int .u64, b4_1⟩], .blk 27 [.cell ⟨.int .u64, b5_0⟩, .cell ⟨.int .u64, b5_1⟩], .blk 27 [.cell ⟨.int .u64, b6_0⟩, .cell ⟨.int .u64, b6_1⟩], .blk 27 [.cell ⟨.int .u64, b7_0⟩, .cell ⟨.int .u64, b7_1⟩]]⟩
noncomputable def ref11If_J1 (n : Nat) (s0 : Int) (s1 : Bool) (s2 : Bool) (b0_0 : Int) (b0_1 : Int) (b1_0 : Int) (b1_1 : Int) (b2_0 : Int) (b2_1 : Int) (b3_0 : Int) (b3_1 : Int) (b4_0 : Int) (b4_1 : Int) (b5_0 : Int) (b5_1 : Int) (b6_0 : Int) (b6_1 : Int) (b7_0 : Int) (b7_1 : Int) : Option (Span × Span × Bool) := cutF TT Tryz.prog ref11If_C ref11If_cuts Tryz.f14 (bodyOf Tryz.f14) ⟨[], []⟩ [.val (.int .u8), .val (.bool), .val (.bool), .val (.user 0), .val (.user 0)] [.val (.user 0), .val (.user 0), .val (.bool)] n [true, true, true, true, true] ⟨[(0, .cell ⟨.int .u8, s0⟩), (1, .cell ⟨.bool, s1⟩), (2, .cell ⟨.bool, s2⟩), (8, .ptr 0 0), (9, .ptr 1 0), (10, .ptr 2 0), (11, .ptr 3 0), (13, .ptr 4 0), (14, .ptr 5 0), (15, .ptr 6 0), (16, .ptr 7 0)], [.blk 27 [.cell ⟨.int .u64, b0_0⟩, .cell ⟨.int .u64, b0_1⟩], .blk 27 [.cell ⟨.int .u64, b1_0⟩, .cell ⟨.int .u64, b1_1⟩], .blk 27 [.cell ⟨.int .u64, b2_0⟩, .cell ⟨.int .u64, b2_1⟩], .blk 27 [.cell ⟨.int .u64, b3_0⟩, .cell ⟨.int .u64, b3_1⟩], .blk 27 [.cell ⟨.int .u64, b4_0⟩, .cell ⟨.int .u64, b4_1⟩], .blk 27 [.cell ⟨.int .u64, b5_0⟩, .cell ⟨.int .u64, b5_1⟩], .blk 27 [.cell ⟨.int .u64, b6_0⟩, .cell ⟨.int .u64, b6_1⟩], .blk 27 [.cell ⟨.int .u64, b7_0⟩, .cell ⟨.int .u64, b7_1⟩]]⟩
noncomputable def ref11If_J3 (n : Nat) (s1 : Bool) (s17 : Bool) (b0_0 : Int) (b0_1 : Int) (b1_0 : Int) (b1_1 : Int) (b2_0 : Int) (b2_1 : Int) (b3_0 : Int) (b3_1 : Int) (b4_0 : Int) (b4_1 : Int) (b5_0 : Int) (b5_1 : Int) : Option (Span × Span × Bool) := cutF TT Tryz.prog ref11If_C ref11If_cuts Tryz.f14 (bodyOf Tryz.f14) ⟨[], []⟩ [.val (.int .u8), .val (.bool), .val (.bool), .val (.user 0), .val (.user 0)] [.val (.user 0), .val (.user 0), .val (.bool)] n [true, true, true, true, true, true] ⟨[(1, .cell ⟨.bool, s1⟩), (8, .ptr 0 0), (9, .ptr 1 0), (10, .ptr 2 0), (11, .ptr 3 0), (15, .ptr 4 0), (16, .ptr 5 0), (17, .cell ⟨.bool, s17⟩)], [.blk 27 [.cell ⟨.int .u64, b0_0⟩, .cell ⟨.int .u64, b0_1⟩], .blk 27 [.cell ⟨.int .u64, b1_0⟩, .cell ⟨.int .u64, b1_1⟩], .blk 27 [.cell ⟨.int .u64, b2_0⟩, .cell ⟨.int .u64, b2_1⟩], .blk 27 [.cell ⟨.int .u64, b3_0⟩, .cell ⟨.int .u64, b3_1⟩], .blk 27 [.cell ⟨.int .u64, b4_0⟩, .cell ⟨.int .u64, b4_1⟩], .blk 27 [.cell ⟨.int .u64, b5_0⟩, .cell ⟨.int .u64, b5_1⟩]]⟩
noncomputable def ref11If_J4 (n : Nat) (s1 : Bool) (b0_0 : Int) (b0_1 : Int) (b1_0 : Int) (b1_1 : Int) (b2_0 : Int) (b2_1 : Int) (b3_0 : Int) (b3_1 : Int) (b4_0 : Int) (b4_1 : Int) : Option (Span × Span × Bool) := cutF TT Tryz.prog ref11If_C ref11If_cuts Tryz.f14 (bodyOf Tryz.f14) ⟨[], []⟩ [.val (.int .u8), .val (.bool), .val (.bool), .val (.user 0), .val (.user 0)] [.val (.user 0), .val (.user 0), .val (.bool)] n [true, true, true, true, true, true, true, true] ⟨[(1, .cell ⟨.bool, s1⟩), (9, .ptr 0 0), (10, .ptr 1 0), (11, .ptr 2 0), (15, .ptr 3 0), (16, .ptr 4 0)], [.blk 27 [.cell ⟨.int .u64, b0_0⟩, .cell ⟨.int .u64, b0_1⟩], .blk 27 [.cell ⟨.int .u64, b1_0⟩, .cell ⟨.int .u64, b1_1⟩], .blk 27 [.cell ⟨.int .u64, b2_0⟩, .cell ⟨.int .u64, b2_1⟩], .blk 27 [.cell ⟨.int .u64, b3_0⟩, .cell ⟨.int .u64, b3_1⟩], .blk 27 [.cell ⟨.int .u64, b4_0⟩, .cell ⟨.int .u64, b4_1⟩]]⟩
theorem ref11If_eq (n : Nat) (x0 : Int) (x1 : Bool) (x2 : Bool) (x3 : Span) (x4 : Span) : ref11If n x0 x1 x2 x3 x4 =
  forkB (decide (x0 < (17 : Int)))
  (ref11If_J0 n x0 x1 x2 true x3.Lo x3.Hi x4.Lo x4.Hi (0 : Int) (0 : Int) (0 : Int) (0 : Int))
  (forkB (decide (x0 > (27 : Int)))
   (ref11If_J0 n x0 x1 x2 true x3.Lo x3.Hi x4.Lo x4.Hi (0 : Int) (0 : Int) (0 : Int) (0 : Int))
   (obind (ref11Right BIG x3) fun y1 =>
    forkB (!y1)
    (ref11If_J0 n x0 x1 x2 true x3.Lo x3.Hi x4.Lo x4.Hi (0 : Int) (0 : Int) (0 : Int) (0 : Int))
    (obind (ref11Right BIG x4) fun y2 =>
     ref11If_J0 n x0 x1 x2 (!y2) x3.Lo x3.Hi x4.Lo x4.Hi (0 : Int) (0 : Int) (0 : Int) (0 : Int)))) := by kernel_rfl
theorem ref11If_J0_eq (n : Nat) (s0 : Int) (s1 : Bool) (s2 : Bool) (s33 : Bool) (b0_0 : Int) (b0_1 : Int) (b1_0 : Int) (b1_1 : Int) (b2_0 : Int) (b2_1 : Int) (b3_0 : Int) (b3_1 : Int) : ref11If_J0 (n + 1) s0 s1 s2 s33 b0_0 b0_1 b1_0 b1_1 b2_0 b2_1 b3_0 b3_1 =
  forkB s33
  (some ((⟨b0_0, b0_1⟩ : Span), (⟨b1_0, b1_1⟩ : Span), true))
  (obind (ref11_cut BIG (⟨b0_0, b0_1⟩ : Span) s1) fun y1 =>
   obind (ref11_cut BIG (⟨b1_0, b1_1⟩ : Span) s1) fun y2 =>
   forkB (s0 != (27 : Int))
   (ref11If_J2 n s0 s1 s2 (!s2) b0_0 b0_1 b1_0 b1_1 b2_0 b2_1 b3_0 b3_1 y1.Lo y1.Hi y2.Lo y2.Hi (0 : Int) (0 : Int) (0 : Int) (0 : Int))
   (ref11If_J2 n s0 s1 s2 false b0_0 b0_1 b1_0 b1_1 b2_0 b2_1 b3_0 b3_1 y1.Lo y1.Hi y2.Lo y2.Hi (0 : Int) (0 : Int) (0 : Int) (0 : Int))) := by kernel_rfl
theorem ref11If_J2_eq (n : Nat) (s0 : Int) (s1 : Bool) (s2 : Bool) (s47 : Bool) (b0_0 : Int) (b0_1 : Int) (b1_0 : Int) (b1_1 : Int) (b2_0 : Int) (b2_1 : Int) (b3_0 : Int) (b3_1 : Int) (b4_0 : Int) (b4_1 : Int) (b5_0 : Int) (b5_1 : Int) (b6_0 : Int) (b6_1 : Int) (b7_0 : Int) (b7_1 : Int) : ref11If_J2 (n + 1) s0 s1 s2 s47 b0_0 b0_1 b1_0 b1_1 b2_0 b2_1 b3_0 b3_1 b4_0 b4_1 b5_0 b5_1 b6_0 b6_1 b7_0 b7_1 =
  forkB s47
  (obind (ref11_opposite BIG s0) fun y1 =>
   ref11If_J1 n y1 s1 s2 b0_0 b0_1 b1_0 b1_1 b2_0 b2_1 b3_0 b3_1 b4_0 b4_1 b5_0 b5_1 b6_0 b6_1 b7_0 b7_1)
  (ref11If_J1 n s0 s1 s2 b0_0 b0_1 b1_0 b1_1 b2_0 b2_1 b3_0 b3_1 b4_0 b4_1 b5_0 b5_1 b6_0 b6_1 b7_0 b7_1) := by kernel_rfl
theorem ref11If_J1_eq (n : Nat) (s0 : Int) (s1 : Bool) (s2 : Bool) (b0_0 : Int) (b0_1 : Int) (b1_0 : Int) (b1_1 : Int) (b2_0 : Int) (b2_1 : Int) (b3_0 : Int) (b3_1 : Int) (b4_0 : Int) (b4_1 : Int) (b5_0 : Int) (b5_1 : Int) (b6_0 : Int) (b6_1 : Int) (b7_0 : Int) (b7_1 : Int) : ref11If_J1 (n + 1) s0 s1 s2 b0_0 b0_1 b1_0 b1_1 b2_0 b2_1 b3_0 b3_1 b4_0 b4_1 b5_0 b5_1 b6_0 b6_1 b7_0 b7_1 =
  forkB (s0 == (27 : Int))
  (obind (ref11_set BIG s2 (⟨b4_0, b4_1⟩ : Span) (⟨b5_0, b5_1⟩ : Span)) fun y1 =>
   ref11If_J3 n s1 y1.2.2 b0_0 b0_1 b1_0 b1_1 b2_0 b2_1 b3_0 b3_1 y1.1.Lo y1.1.Hi y1.2.1.Lo y1.2.1.Hi)
  (forkB (decide (s0 ≥ (23 : Int)))
   (obind (ref11_signed BIG s0 s1 (⟨b4_0, b4_1⟩ : Span) (⟨b5_0, b5_1⟩ : Span)) fun y2 =>
    ref11If_J3 n s1 y2.2.2 b0_0 b0_1 b1_0 b1_1 b2_0 b2_1 b3_0 b3_1 y2.1.Lo y2.1.Hi y2.2.1.Lo y2.2.1.Hi)
   (obind (ref11_asked BIG s0 (⟨b4_0, b4_1⟩ : Span) (⟨b5_0, b5_1⟩ : Span)) fun y3 =>
    ref11If_J3 n s1 y3.2.2 b0_0 b0_1 b1_0 b1_1 b2_0 b2_1 b3_0 b3_1 y3.1.Lo y3.1.Hi y3.2.1.Lo y3.2.1.Hi)) := by kernel_rfl
theorem ref11If_J3_eq (n : Nat) (s1 : Bool) (s17 : Bool) (b0_0 : Int) (b0_1 : Int) (b1_0 : Int) (b1_1 : Int) (b2_0 : Int) (b2_1 : Int) (b3_0 : Int) (b3_1 : Int) (b4_0 : Int) (b4_1 : Int) (b5_0 : Int) (b5_1 : Int) : ref11If_J3 (n + 1) s1 s17 b0_0 b0_1 b1_0 b1_1 b2_0 b2_1 b3_0 b3_1 b4_0 b4_1 b5_0 b5_1 =
  forkB (!s17)
  (some ((⟨(0 : Int), (0 : Int)⟩ : Span), (⟨(0 : Int), (0 : Int)⟩ : Span), false))
  (obind (ref11_most BIG s1) fun y1 =>
   forkB (decide (b0_1 > y1))
   (ref11If_J4 n s1 b1_0 b1_1 b2_0 b2_1 b3_0 b3_1 b0_0 b0_1 b5_0 b5_1)
   (ref11If_J4 n s1 b1_0 b1_1 b2_0 b2_1 b3_0 b3_1 b4_0 b4_1 b5_0 b5_1)) := by kernel_rfl
theorem ref11If_J4_eq (n : Nat) (s1 : Bool) (b0_0 : Int) (b0_1 : Int) (b1_0 : Int) (b1_1 : Int) (b2_0 : Int) (b2_1 : Int) (b3_0 : Int) (b3_1 : Int) (b4_0 : Int) (b4_1 : Int) : ref11If_J4 (n + 1) s1 b0_0 b0_1 b1_0 b1_1 b2_0 b2_1 b3_0 b3_1 b4_0 b4_1 =
  obind (ref11_most BIG s1) fun y1 =>
  forkB (decide (b0_1 > y1))
  (some ((⟨b3_0, b3_1⟩ : Span), (⟨b0_0, b0_1⟩ : Span), true))
  (some ((⟨b3_0, b3_1⟩ : Span), (⟨b4_0, b4_1⟩ : Span), true)) := by kernel_rfl
noncomputable def ref11If_sp : FnSpec TT := ⟨[.val (.int .u8), .val (.bool), .val (.bool), .val (.user 0), .val (.user 0)], [.val (.user 0), .val (.user 0), .val (.bool)], fun x => ref11If BIG x.1 x.2.1 x.2.2.1 x.2.2.2.1 x.2.2.2.2⟩
theorem ref11If_ok : FnOk TT Tryz.prog 14 ref11If_sp := fnOk_of (C := ref11If_C) (by kernel_rfl) ref11If_env Tryz.func14 (show Tryz.f14.body = some (bodyOf Tryz.f14) by kernel_rfl) (by kernel_rfl) (by kernel_rfl) (cuts := ref11If_cuts) fun x y h => ⟨BIG, h⟩
end Go.X
