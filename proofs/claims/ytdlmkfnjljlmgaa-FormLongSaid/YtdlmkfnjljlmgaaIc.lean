/- What may come behind. -/
import Derived.Test.YtdlmkfnjljlmgaaIb
namespace Go.X
open Go.RowKit Go.V Go.Proofs
noncomputable def shape_when_C : Ctx TT := ⟨tyOf, [], 0, []⟩
theorem shape_when_env : EnvOk TT Try.prog shape_when_C.E := envNil
def shape_when_cuts : List (Pos × Cut) := []
noncomputable def shape_when (n : Nat) (x0 : Bool) (x1 : Int) : Option (Int) := topF TT Try.prog shape_when_C shape_when_cuts Try.f55 (bodyOf Try.f55) [.val (.bool), .val (.int .i64)] [.val (.int .i64)] n (x0, x1)
theorem shape_when_eq (n : Nat) (x0 : Bool) (x1 : Int) : shape_when n x0 x1 =
  forkB x0
  (some x1)
  (some (0 : Int)) := by kernel_rfl
noncomputable def shape_when_sp : FnSpec TT := ⟨[.val (.bool), .val (.int .i64)], [.val (.int .i64)], fun x => shape_when BIG x.1 x.2⟩
theorem shape_when_ok : FnOk TT Try.prog 55 shape_when_sp := fnOk_of (C := shape_when_C) (by kernel_rfl) shape_when_env Try.func55 (show Try.f55.body = some (bodyOf Try.f55) by kernel_rfl) (by kernel_rfl) (by kernel_rfl) (cuts := shape_when_cuts) fun x y h => ⟨BIG, h⟩
noncomputable def shapeCheck_1_g1_C : Ctx TT := ⟨tyOf, [(13, insRight_sp.toCall), (55, shape_when_sp.toCall)], 1, []⟩
theorem shapeCheck_1_g1_env : EnvOk TT Try.prog shapeCheck_1_g1_C.E := envG (fnCall_ok insRight_ok) (envG (fnCall_ok shape_when_ok) (envNil))
def shapeCheck_1_g1_cuts : List (Pos × Cut) := []
noncomputable def shapeCheck_1_g1 (n : Nat) (x0 : Int) (x1 : List Ins) : Option (((List Ins × Unit) × Unit) × (Int × Unit)) := topG TT Try.prog shapeCheck_1_g1_C shapeCheck_1_g1_cuts Try.f54 (bodyOf Try.f54) ⟨[], [], []⟩ [.val (.int .i64), .ptr 0 22 [.val (.list (.user 0))]] [.blk 22 [.val (.list (.user 0))]] [.val (.int .i64)] n (x0, (x1, ()), ())
theorem shapeCheck_1_g1_eq (n : Nat) (x0 : Int) (x1 : List Ins) : shapeCheck_1_g1 n x0 x1 =
  if 0 ≤ x0 ∧ x0 < ((x1.length : Nat) : Int) then (obind (insRight BIG (x1.getD x0.toNat dIns)) fun y1 =>
  obind (shape_when BIG (!y1) (4 : Int)) fun y2 =>
  some (((x1, ()), ()), (y2, ()))) else none := by kernel_rfl
noncomputable def shapeCheck_1_g1_sp : GSpec TT := ⟨[.val (.int .i64), .ptr 0 22 [.val (.list (.user 0))]], [.blk 22 [.val (.list (.user 0))]], [.val (.int .i64)], fun x => shapeCheck_1_g1 BIG x.1 x.2.1.1⟩
theorem shapeCheck_1_g1_ok : GOk TT Try.prog 54 shapeCheck_1_g1_sp := gOk_of (C := shapeCheck_1_g1_C) (cuts := shapeCheck_1_g1_cuts) (by kernel_rfl) shapeCheck_1_g1_env Try.func54 (show Try.f54.body = some (bodyOf Try.f54) by kernel_rfl) (by kernel_rfl) (by kernel_rfl) (by kernel_rfl) fun x y h => ⟨BIG, h⟩
noncomputable def shapeCheck_2_g1_C : Ctx TT := ⟨tyOf, [(15, insJumps_sp.toCall), (55, shape_when_sp.toCall)], 1, []⟩
theorem shapeCheck_2_g1_env : EnvOk TT Try.prog shapeCheck_2_g1_C.E := envG (fnCall_ok insJumps_ok) (envG (fnCall_ok shape_when_ok) (envNil))
def shapeCheck_2_g1_cuts : List (Pos × Cut) := []
noncomputable def shapeCheck_2_g1 (n : Nat) (x0 : Int) (x1 : List Ins) : Option (((List Ins × Unit) × Unit) × (Int × Unit)) := topG TT Try.prog shapeCheck_2_g1_C shapeCheck_2_g1_cuts Try.f56 (bodyOf Try.f56) ⟨[], [], []⟩ [.val (.int .i64), .ptr 0 22 [.val (.list (.user 0))]] [.blk 22 [.val (.list (.user 0))]] [.val (.int .i64)] n (x0, (x1, ()), ())
theorem shapeCheck_2_g1_eq (n : Nat) (x0 : Int) (x1 : List Ins) : shapeCheck_2_g1 n x0 x1 =
  if 0 ≤ x0 ∧ x0 < ((x1.length : Nat) : Int) then (if 0 ≤ x0 ∧ x0 < ((x1.length : Nat) : Int) then (obind (insJumps BIG (x1.getD x0.toNat dIns)) fun y1 =>
  forkB (!y1)
  (some (((x1, ()), ()), ((0 : Int), ())))
  (forkB (decide ((IntKind.i64.wrap ((IntKind.i64.wrap (x0 + (1 : Int))) + ((x1.getD x0.toNat dIns).Off))) ≤ x0))
   (some (((x1, ()), ()), ((100 : Int), ())))
   (obind (shape_when BIG (decide ((IntKind.i64.wrap ((IntKind.i64.wrap (x0 + (1 : Int))) + ((x1.getD x0.toNat dIns).Off))) ≥ ((x1.length : Nat) : Int))) (101 : Int)) fun y2 =>
    some (((x1, ()), ()), (y2, ()))))) else none) else none := by kernel_rfl
noncomputable def shapeCheck_2_g1_sp : GSpec TT := ⟨[.val (.int .i64), .ptr 0 22 [.val (.list (.user 0))]], [.blk 22 [.val (.list (.user 0))]], [.val (.int .i64)], fun x => shapeCheck_2_g1 BIG x.1 x.2.1.1⟩
theorem shapeCheck_2_g1_ok : GOk TT Try.prog 56 shapeCheck_2_g1_sp := gOk_of (C := shapeCheck_2_g1_C) (cuts := shapeCheck_2_g1_cuts) (by kernel_rfl) shapeCheck_2_g1_env Try.func56 (show Try.f56.body = some (bodyOf Try.f56) by kernel_rfl) (by kernel_rfl) (by kernel_rfl) (by kernel_rfl) fun x y h => ⟨BIG, h⟩
noncomputable def shapeCheck_3_g1_C : Ctx TT := ⟨tyOf, [(55, shape_when_sp.toCall)], 1, []⟩
theorem shapeCheck_3_g1_env : EnvOk TT Try.prog shapeCheck_3_g1_C.E := envG (fnCall_ok shape_when_ok) (envNil)
def shapeCheck_3_g1_cuts : List (Pos × Cut) := []
noncomputable def shapeCheck_3_g1 (n : Nat) (x0 : Int) (x1 : List Ins) : Option (((List Ins × Unit) × Unit) × (Int × Unit)) := topG TT Try.prog shapeCheck_3_g1_C shapeCheck_3_g1_cuts Try.f57 (bodyOf Try.f57) ⟨[], [], []⟩ [.val (.int .i64), .ptr 0 22 [.val (.list (.user 0))]] [.blk 22 [.val (.list (.user 0))]] [.val (.int .i64)] n (x0, (x1, ()), ())
theorem shapeCheck_3_g1_eq (n : Nat) (x0 : Int) (x1 : List Ins) : shapeCheck_3_g1 n x0 x1 =
  forkB (x0 == (IntKind.i64.wrap (((x1.length : Nat) : Int) - (1 : Int))))
  (if 0 ≤ x0 ∧ x0 < ((x1.length : Nat) : Int) then (forkB (((x1.getD x0.toNat dIns).Op) != (28 : Int))
   (if 0 ≤ x0 ∧ x0 < ((x1.length : Nat) : Int) then (obind (shape_when BIG (((x1.getD x0.toNat dIns).Op) != (16 : Int)) (102 : Int)) fun y1 =>
    some (((x1, ()), ()), (y1, ()))) else none)
   (obind (shape_when BIG false (102 : Int)) fun y2 =>
    some (((x1, ()), ()), (y2, ())))) else none)
  (obind (shape_when BIG false (102 : Int)) fun y3 =>
   some (((x1, ()), ()), (y3, ()))) := by kernel_rfl
noncomputable def shapeCheck_3_g1_sp : GSpec TT := ⟨[.val (.int .i64), .ptr 0 22 [.val (.list (.user 0))]], [.blk 22 [.val (.list (.user 0))]], [.val (.int .i64)], fun x => shapeCheck_3_g1 BIG x.1 x.2.1.1⟩
theorem shapeCheck_3_g1_ok : GOk TT Try.prog 57 shapeCheck_3_g1_sp := gOk_of (C := shapeCheck_3_g1_C) (cuts := shapeCheck_3_g1_cuts) (by kernel_rfl) shapeCheck_3_g1_env Try.func57 (show Try.f57.body = some (bodyOf Try.f57) by kernel_rfl) (by kernel_rfl) (by kernel_rfl) (by kernel_rfl) fun x y h => ⟨BIG, h⟩
def str0 : ByteArray := ⟨#[0, 1, 2, 2, 3, 3, 3, 3, 4, 4, 4, 4, 4, 4, 4, 4, 5, 5, 5, 5, 5, 5, 5, 5, 5, 5, 5, 5, 5, 5, 5, 5, 6, 6, 6, 6, 6, 6, 6, 6, 6, 6, 6, 6, 6, 6, 6, 6, 6, 6, 6, 6, 6, 6, 6, 6, 6, 6, 6, 6, 6, 6, 6, 6, 7, 7, 7, 7, 7, 7, 7, 7, 7, 7, 7, 7, 7, 7, 7, 7, 7, 7, 7, 7, 7, 7, 7, 7, 7, 7, 7, 7, 7, 7, 7, 7, 7, 7, 7, 7, 7, 7, 7, 7, 7, 7, 7, 7, 7, 7, 7, 7, 7, 7, 7, 7, 7, 7, 7, 7, 7, 7, 7, 7, 7, 7, 7, 7, 8, 8, 8, 8, 8, 8, 8, 8, 8, 8, 8, 8, 8, 8, 8, 8, 8, 8, 8, 8, 8, 8, 8, 8, 8, 8, 8, 8, 8, 8, 8, 8, 8, 8, 8, 8, 8, 8, 8, 8, 8, 8, 8, 8, 8, 8, 8, 8, 8, 8, 8, 8, 8, 8, 8, 8, 8, 8, 8, 8, 8, 8, 8, 8, 8, 8, 8, 8, 8, 8, 8, 8, 8, 8, 8, 8, 8, 8, 8, 8, 8, 8, 8, 8, 8, 8, 8, 8, 8, 8, 8, 8, 8, 8, 8, 8, 8, 8, 8, 8, 8, 8, 8, 8, 8, 8, 8, 8, 8, 8, 8, 8, 8, 8, 8, 8, 8, 8, 8, 8, 8, 8, 8, 8, 8, 8, 8, 8]⟩
noncomputable def bitsLen64_C : Ctx TT := ⟨tyOf, [], 0, []⟩
theorem bitsLen64_env : EnvOk TT Try.prog bitsLen64_C.E := envNil
def bitsLen64_cuts : List (Pos × Cut) := [([true], ⟨[0, 2], [], false, []⟩), ([true, true], ⟨[0, 2], [], false, []⟩), ([true, true, true], ⟨[0, 2], [], false, []⟩)]
noncomputable def bitsLen64 (n : Nat) (x0 : Int) : Option (Int) := topF TT Try.prog bitsLen64_C bitsLen64_cuts Try.f75 (bodyOf Try.f75) [.val (.int .u64)] [.val (.int .i64)] n x0
noncomputable def bitsLen64_J0 (n : Nat) (s0 : Int) (s2 : Int) : Option (Int) := cutF TT Try.prog bitsLen64_C bitsLen64_cuts Try.f75 (bodyOf Try.f75) [.val (.int .u64)] [.val (.int .i64)] n [true] ⟨[(0, .cell ⟨.int .u64, s0⟩), (2, .cell ⟨.int .i64, s2⟩)], []⟩
noncomputable def bitsLen64_J1 (n : Nat) (s0 : Int) (s2 : Int) : Option (Int) := cutF TT Try.prog bitsLen64_C bitsLen64_cuts Try.f75 (bodyOf Try.f75) [.val (.int .u64)] [.val (.int .i64)] n [true, true] ⟨[(0, .cell ⟨.int .u64, s0⟩), (2, .cell ⟨.int .i64, s2⟩)], []⟩
noncomputable def bitsLen64_J2 (n : Nat) (s0 : Int) (s2 : Int) : Option (Int) := cutF TT Try.prog bitsLen64_C bitsLen64_cuts Try.f75 (bodyOf Try.f75) [.val (.int .u64)] [.val (.int .i64)] n [true, true, true] ⟨[(0, .cell ⟨.int .u64, s0⟩), (2, .cell ⟨.int .i64, s2⟩)], []⟩
theorem bitsLen64_eq (n : Nat) (x0 : Int) : bitsLen64 n x0 =
  forkB (decide (x0 ≥ (4294967296 : Int)))
  (bitsLen64_J0 n (sShr .u64 x0 (32 : Int)) (32 : Int))
  (bitsLen64_J0 n x0 (0 : Int)) := by kernel_rfl
theorem bitsLen64_J0_eq (n : Nat) (s0 : Int) (s2 : Int) : bitsLen64_J0 (n + 1) s0 s2 =
  forkB (decide (s0 ≥ (65536 : Int)))
  (bitsLen64_J1 n (sShr .u64 s0 (16 : Int)) (IntKind.i64.wrap (s2 + (16 : Int))))
  (bitsLen64_J1 n s0 s2) := by kernel_rfl
theorem bitsLen64_J1_eq (n : Nat) (s0 : Int) (s2 : Int) : bitsLen64_J1 (n + 1) s0 s2 =
  forkB (decide (s0 ≥ (256 : Int)))
  (bitsLen64_J2 n (sShr .u64 s0 (8 : Int)) (IntKind.i64.wrap (s2 + (8 : Int))))
  (bitsLen64_J2 n s0 s2) := by kernel_rfl
theorem bitsLen64_J2_eq (n : Nat) (s0 : Int) (s2 : Int) : bitsLen64_J2 (n + 1) s0 s2 =
  strAt str0 (IntKind.u8.wrap s0) fun y1 =>
  some (IntKind.i64.wrap (s2 + (IntKind.i64.wrap y1))) := by kernel_rfl
noncomputable def bitsLen64_sp : FnSpec TT := ⟨[.val (.int .u64)], [.val (.int .i64)], fun x => bitsLen64 BIG x⟩
theorem bitsLen64_ok : FnOk TT Try.prog 75 bitsLen64_sp := fnOk_of (C := bitsLen64_C) (by kernel_rfl) bitsLen64_env Try.func75 (show Try.f75.body = some (bodyOf Try.f75) by kernel_rfl) (by kernel_rfl) (by kernel_rfl) (cuts := bitsLen64_cuts) fun x y h => ⟨BIG, h⟩
noncomputable def bitsLen_C : Ctx TT := ⟨tyOf, [(75, bitsLen64_sp.toCall)], 0, []⟩
theorem bitsLen_env : EnvOk TT Try.prog bitsLen_C.E := envG (fnCall_ok bitsLen64_ok) (envNil)
def bitsLen_cuts : List (Pos × Cut) := []
noncomputable def bitsLen (n : Nat) (x0 : Int) : Option (Int) := topF TT Try.prog bitsLen_C bitsLen_cuts Try.f62 (bodyOf Try.f62) [.val (.int .u64)] [.val (.int .i64)] n x0
theorem bitsLen_eq (n : Nat) (x0 : Int) : bitsLen n x0 =
  obind (bitsLen64 BIG x0) fun y1 =>
  some y1 := by kernel_rfl
noncomputable def bitsLen_sp : FnSpec TT := ⟨[.val (.int .u64)], [.val (.int .i64)], fun x => bitsLen BIG x⟩
theorem bitsLen_ok : FnOk TT Try.prog 62 bitsLen_sp := fnOk_of (C := bitsLen_C) (by kernel_rfl) bitsLen_env Try.func62 (show Try.f62.body = some (bodyOf Try.f62) by kernel_rfl) (by kernel_rfl) (by kernel_rfl) (cuts := bitsLen_cuts) fun x y h => ⟨BIG, h⟩
noncomputable def cmp_isNaN_C : Ctx TT := ⟨tyOf, [], 0, []⟩
theorem cmp_isNaN_env : EnvOk TT Try.prog cmp_isNaN_C.E := envNil
def cmp_isNaN_cuts : List (Pos × Cut) := []
noncomputable def cmp_isNaN (n : Nat) (x0 : Int) : Option (Bool) := topF TT Try.prog cmp_isNaN_C cmp_isNaN_cuts Try.f81 (bodyOf Try.f81) [.val (.int .i64)] [.val (.bool)] n x0
theorem cmp_isNaN_eq (n : Nat) (x0 : Int) : cmp_isNaN n x0 =
  some (x0 != x0) := by kernel_rfl
noncomputable def cmp_isNaN_sp : FnSpec TT := ⟨[.val (.int .i64)], [.val (.bool)], fun x => cmp_isNaN BIG x⟩
theorem cmp_isNaN_ok : FnOk TT Try.prog 81 cmp_isNaN_sp := fnOk_of (C := cmp_isNaN_C) (by kernel_rfl) cmp_isNaN_env Try.func81 (show Try.f81.body = some (bodyOf Try.f81) by kernel_rfl) (by kernel_rfl) (by kernel_rfl) (cuts := cmp_isNaN_cuts) fun x y h => ⟨BIG, h⟩
noncomputable def cmpLess_C : Ctx TT := ⟨tyOf, [(81, cmp_isNaN_sp.toCall)], 0, []⟩
theorem cmpLess_env : EnvOk TT Try.prog cmpLess_C.E := envG (fnCall_ok cmp_isNaN_ok) (envNil)
def cmpLess_cuts : List (Pos × Cut) := []
noncomputable def cmpLess (n : Nat) (x0 : Int) (x1 : Int) : Option (Bool) := topF TT Try.prog cmpLess_C cmpLess_cuts Try.f71 (bodyOf Try.f71) [.val (.int .i64), .val (.int .i64)] [.val (.bool)] n (x0, x1)
theorem cmpLess_eq (n : Nat) (x0 : Int) (x1 : Int) : cmpLess n x0 x1 =
  obind (cmp_isNaN BIG x0) fun y1 =>
  forkB y1
  (obind (cmp_isNaN BIG x1) fun y2 =>
   forkB (!y2)
   (some true)
   (some (decide (x0 < x1))))
  (some (decide (x0 < x1))) := by kernel_rfl
noncomputable def cmpLess_sp : FnSpec TT := ⟨[.val (.int .i64), .val (.int .i64)], [.val (.bool)], fun x => cmpLess BIG x.1 x.2⟩
theorem cmpLess_ok : FnOk TT Try.prog 71 cmpLess_sp := fnOk_of (C := cmpLess_C) (by kernel_rfl) cmpLess_env Try.func71 (show Try.f71.body = some (bodyOf Try.f71) by kernel_rfl) (by kernel_rfl) (by kernel_rfl) (cuts := cmpLess_cuts) fun x y h => ⟨BIG, h⟩
noncomputable def slices_insertionSortOrdered_C : Ctx TT := ⟨tyOf, [(71, cmpLess_sp.toCall)], 1, [(6, 0)]⟩
theorem slices_insertionSortOrdered_env : EnvOk TT Try.prog slices_insertionSortOrdered_C.E := envG (fnCall_ok cmpLess_ok) (envNil)
def slices_insertionSortOrdered_cuts : List (Pos × Cut) := [([false, true], ⟨[0, 1, 2, 6], [], false, []⟩), ([false, true, false, false, true, false, false, true], ⟨[0, 1, 2, 6, 7], [], false, []⟩), ([false, false, false, true, false, false, true, false, false, true], ⟨[0, 1, 2, 6, 7, 30], [], false, []⟩)]
noncomputable def slices_insertionSortOrdered (n : Nat) (x0 : List Int) (x1 : Int) (x2 : Int) : Option (List Int × Unit) := topF TT Try.prog slices_insertionSortOrdered_C slices_insertionSortOrdered_cuts Try.f65 (bodyOf Try.f65) [.io 3 (.int .i64), .val (.int .i64), .val (.int .i64)] [] n (x0, x1, x2)
noncomputable def slices_insertionSortOrdered_L0 (n : Nat) (s1 : Int) (s2 : Int) (s6 : Int) (r0 : List Int) : Option (List Int × Unit) := cutF TT Try.prog slices_insertionSortOrdered_C slices_insertionSortOrdered_cuts Try.f65 (bodyOf Try.f65) [.io 3 (.int .i64), .val (.int .i64), .val (.int .i64)] [] n [false, true] ⟨[(0, .own 0), (1, .cell ⟨.int .i64, s1⟩), (2, .cell ⟨.int .i64, s2⟩), (6, .cell ⟨.int .i64, s6⟩)], [.row 3 (.int .i64) r0]⟩
noncomputable def slices_insertionSortOrdered_L1 (n : Nat) (s1 : Int) (s2 : Int) (s6 : Int) (s7 : Int) (r0 : List Int) : Option (List Int × Unit) := cutF TT Try.prog slices_insertionSortOrdered_C slices_insertionSortOrdered_cuts Try.f65 (bodyOf Try.f65) [.io 3 (.int .i64), .val (.int .i64), .val (.int .i64)] [] n [false, true, false, false, true, false, false, true] ⟨[(0, .own 0), (1, .cell ⟨.int .i64, s1⟩), (2, .cell ⟨.int .i64, s2⟩), (6, .cell ⟨.int .i64, s6⟩), (7, .cell ⟨.int .i64, s7⟩)], [.row 3 (.int .i64) r0]⟩
noncomputable def slices_insertionSortOrdered_J2 (n : Nat) (s1 : Int) (s2 : Int) (s6 : Int) (s7 : Int) (s30 : Bool) (r0 : List Int) : Option (List Int × Unit) := cutF TT Try.prog slices_insertionSortOrdered_C slices_insertionSortOrdered_cuts Try.f65 (bodyOf Try.f65) [.io 3 (.int .i64), .val (.int .i64), .val (.int .i64)] [] n [false, false, false, true, false, false, true, false, false, true] ⟨[(0, .own 0), (1, .cell ⟨.int .i64, s1⟩), (2, .cell ⟨.int .i64, s2⟩), (6, .cell ⟨.int .i64, s6⟩), (7, .cell ⟨.int .i64, s7⟩), (30, .cell ⟨.bool, s30⟩)], [.row 3 (.int .i64) r0]⟩
theorem slices_insertionSortOrdered_eq (n : Nat) (x0 : List Int) (x1 : Int) (x2 : Int) : slices_insertionSortOrdered n x0 x1 x2 =
  slices_insertionSortOrdered_L0 n x1 x2 (IntKind.i64.wrap (x1 + (1 : Int))) x0 := by kernel_rfl
theorem slices_insertionSortOrdered_L0_eq (n : Nat) (s1 : Int) (s2 : Int) (s6 : Int) (r0 : List Int) : slices_insertionSortOrdered_L0 (n + 1) s1 s2 s6 r0 =
  forkB (decide (s6 < s2))
  (slices_insertionSortOrdered_L1 n s1 s2 s6 s6 r0)
  (some (r0, ())) := by kernel_rfl
theorem slices_insertionSortOrdered_L1_eq (n : Nat) (s1 : Int) (s2 : Int) (s6 : Int) (s7 : Int) (r0 : List Int) : slices_insertionSortOrdered_L1 (n + 1) s1 s2 s6 s7 r0 =
  forkB (decide (s7 > s1))
  (if 0 ≤ s7 ∧ s7 < ((r0.length : Nat) : Int) then (if 0 ≤ IntKind.i64.wrap (s7 - (1 : Int)) ∧ IntKind.i64.wrap (s7 - (1 : Int)) < ((r0.length : Nat) : Int) then (obind (cmpLess BIG (r0.getD s7.toNat (0 : Int)) (r0.getD ((IntKind.i64.wrap (s7 - (1 : Int))).toNat) (0 : Int))) fun y1 =>
   slices_insertionSortOrdered_J2 n s1 s2 s6 s7 y1 r0) else none) else none)
  (slices_insertionSortOrdered_J2 n s1 s2 s6 s7 false r0) := by kernel_rfl
theorem slices_insertionSortOrdered_J2_eq (n : Nat) (s1 : Int) (s2 : Int) (s6 : Int) (s7 : Int) (s30 : Bool) (r0 : List Int) : slices_insertionSortOrdered_J2 (n + 1) s1 s2 s6 s7 s30 r0 =
  forkB s30
  (if 0 ≤ IntKind.i64.wrap (s7 - (1 : Int)) ∧ IntKind.i64.wrap (s7 - (1 : Int)) < ((r0.length : Nat) : Int) then (if 0 ≤ s7 ∧ s7 < ((r0.length : Nat) : Int) then (if 0 ≤ s7 ∧ s7 < ((r0.length : Nat) : Int) then (if 0 ≤ IntKind.i64.wrap (s7 - (1 : Int)) ∧ IntKind.i64.wrap (s7 - (1 : Int)) < (((r0.set s7.toNat (r0.getD ((IntKind.i64.wrap (s7 - (1 : Int))).toNat) (0 : Int))).length : Nat) : Int) then (slices_insertionSortOrdered_L1 n s1 s2 s6 (IntKind.i64.wrap (s7 - (1 : Int))) ((r0.set s7.toNat (r0.getD ((IntKind.i64.wrap (s7 - (1 : Int))).toNat) (0 : Int))).set ((IntKind.i64.wrap (s7 - (1 : Int))).toNat) (r0.getD s7.toNat (0 : Int)))) else none) else none) else none) else none)
  (slices_insertionSortOrdered_L0 n s1 s2 (IntKind.i64.wrap (s6 + (1 : Int))) r0) := by kernel_rfl
noncomputable def slices_insertionSortOrdered_sp : FnSpec TT := ⟨[.io 3 (.int .i64), .val (.int .i64), .val (.int .i64)], [], fun x => slices_insertionSortOrdered BIG x.1 x.2.1 x.2.2⟩
theorem slices_insertionSortOrdered_ok : FnOk TT Try.prog 65 slices_insertionSortOrdered_sp := fnOk_of (C := slices_insertionSortOrdered_C) (by kernel_rfl) slices_insertionSortOrdered_env Try.func65 (show Try.f65.body = some (bodyOf Try.f65) by kernel_rfl) (by kernel_rfl) (by kernel_rfl) (cuts := slices_insertionSortOrdered_cuts) fun x y h => ⟨BIG, h⟩
noncomputable def slices_pdqsortOrdered_C : Ctx TT := ⟨tyOf, [(65, slices_insertionSortOrdered_sp.toCall)], 1, []⟩
theorem slices_pdqsortOrdered_env : EnvOk TT Try.prog slices_pdqsortOrdered_C.E := envG (fnCall_ok slices_insertionSortOrdered_ok) (envNil)
def slices_pdqsortOrdered_cuts : List (Pos × Cut) := [([false, true, true], ⟨[0, 1, 2, 3, 8, 9], [], false, []⟩), ([true, true, true, false, false, false, true, true], ⟨[0, 1, 2, 3, 8, 9, 10], [], false, []⟩)]
noncomputable def slices_pdqsortOrdered (n : Nat) (x0 : List Int) (x1 : Int) (x2 : Int) (x3 : Int) : Option (List Int × Unit) := topF TT Try.prog slices_pdqsortOrdered_C slices_pdqsortOrdered_cuts Try.f61 (bodyOf Try.f61) [.io 3 (.int .i64), .val (.int .i64), .val (.int .i64), .val (.int .i64)] [] n (x0, x1, x2, x3)
noncomputable def slices_pdqsortOrdered_L0 (n : Nat) (s1 : Int) (s2 : Int) (s3 : Int) (s8 : Bool) (s9 : Bool) (r0 : List Int) : Option (List Int × Unit) := cutF TT Try.prog slices_pdqsortOrdered_C slices_pdqsortOrdered_cuts Try.f61 (bodyOf Try.f61) [.io 3 (.int .i64), .val (.int .i64), .val (.int .i64), .val (.int .i64)] [] n [false, true, true] ⟨[(0, .own 0), (1, .cell ⟨.int .i64, s1⟩), (2, .cell ⟨.int .i64, s2⟩), (3, .cell ⟨.int .i64, s3⟩), (8, .cell ⟨.bool, s8⟩), (9, .cell ⟨.bool, s9⟩)], [.row 3 (.int .i64) r0]⟩
noncomputable def slices_pdqsortOrdered_J1 (n : Nat) (s1 : Int) (s2 : Int) (s3 : Int) (s8 : Bool) (s9 : Bool) (s10 : Int) (r0 : List Int) : Option (List Int × Unit) := cutF TT Try.prog slices_pdqsortOrdered_C slices_pdqsortOrdered_cuts Try.f61 (bodyOf Try.f61) [.io 3 (.int .i64), .val (.int .i64), .val (.int .i64), .val (.int .i64)] [] n [true, true, true, false, false, false, true, true] ⟨[(0, .own 0), (1, .cell ⟨.int .i64, s1⟩), (2, .cell ⟨.int .i64, s2⟩), (3, .cell ⟨.int .i64, s3⟩), (8, .cell ⟨.bool, s8⟩), (9, .cell ⟨.bool, s9⟩), (10, .cell ⟨.int .i64, s10⟩)], [.row 3 (.int .i64) r0]⟩
theorem slices_pdqsortOrdered_eq (n : Nat) (x0 : List Int) (x1 : Int) (x2 : Int) (x3 : Int) : slices_pdqsortOrdered n x0 x1 x2 x3 =
  slices_pdqsortOrdered_L0 n x1 x2 x3 true true x0 := by kernel_rfl
theorem slices_pdqsortOrdered_L0_eq (n : Nat) (s1 : Int) (s2 : Int) (s3 : Int) (s8 : Bool) (s9 : Bool) (r0 : List Int) : slices_pdqsortOrdered_L0 (n + 1) s1 s2 s3 s8 s9 r0 =
  forkB (decide ((IntKind.i64.wrap (s2 - s1)) ≤ (12 : Int)))
  (obind (slices_insertionSortOrdered BIG r0 s1 s2) fun y1 =>
   some (y1.1, ()))
  (forkB (s3 == (0 : Int))
   (none)
   (forkB (!s8)
    (none)
    (slices_pdqsortOrdered_J1 n s1 s2 s3 s8 s9 (IntKind.i64.wrap (s2 - s1)) r0))) := by kernel_rfl
theorem slices_pdqsortOrdered_J1_eq (n : Nat) (s1 : Int) (s2 : Int) (s3 : Int) (s8 : Bool) (s9 : Bool) (s10 : Int) (r0 : List Int) : slices_pdqsortOrdered_J1 (n + 1) s1 s2 s3 s8 s9 s10 r0 =
  none := by kernel_rfl
noncomputable def slices_pdqsortOrdered_sp : FnSpec TT := ⟨[.io 3 (.int .i64), .val (.int .i64), .val (.int .i64), .val (.int .i64)], [], fun x => slices_pdqsortOrdered BIG x.1 x.2.1 x.2.2.1 x.2.2.2⟩
theorem slices_pdqsortOrdered_ok : FnOk TT Try.prog 61 slices_pdqsortOrdered_sp := fnOk_of (C := slices_pdqsortOrdered_C) (by kernel_rfl) slices_pdqsortOrdered_env Try.func61 (show Try.f61.body = some (bodyOf Try.f61) by kernel_rfl) (by kernel_rfl) (by kernel_rfl) (cuts := slices_pdqsortOrdered_cuts) fun x y h => ⟨BIG, h⟩
noncomputable def slicesSort_C : Ctx TT := ⟨tyOf, [(62, bitsLen_sp.toCall), (61, slices_pdqsortOrdered_sp.toCall)], 1, []⟩
theorem slicesSort_env : EnvOk TT Try.prog slicesSort_C.E := envG (fnCall_ok bitsLen_ok) (envG (fnCall_ok slices_pdqsortOrdered_ok) (envNil))
def slicesSort_cuts : List (Pos × Cut) := []
noncomputable def slicesSort (n : Nat) (x0 : List Int) : Option (List Int × Unit) := topF TT Try.prog slicesSort_C slicesSort_cuts Try.f44 (bodyOf Try.f44) [.io 3 (.int .i64)] [] n x0
theorem slicesSort_eq (n : Nat) (x0 : List Int) : slicesSort n x0 =
  obind (bitsLen BIG (IntKind.u64.wrap ((x0.length : Nat) : Int))) fun y1 =>
  obind (slices_pdqsortOrdered BIG x0 (0 : Int) ((x0.length : Nat) : Int) y1) fun y2 =>
  some (y2.1, ()) := by kernel_rfl
noncomputable def slicesSort_sp : FnSpec TT := ⟨[.io 3 (.int .i64)], [], fun x => slicesSort BIG x⟩
theorem slicesSort_ok : FnOk TT Try.prog 44 slicesSort_sp := fnOk_of (C := slicesSort_C) (by kernel_rfl) slicesSort_env Try.func44 (show Try.f44.body = some (bodyOf Try.f44) by kernel_rfl) (by kernel_rfl) (by kernel_rfl) (cuts := slicesSort_cuts) fun x y h => ⟨BIG, h⟩
noncomputable def slices_insertionSortOrdered_g1_C : Ctx TT := ⟨tyOf, [(71, cmpLess_sp.toCall)], 1, [(6, 0)]⟩
theorem slices_insertionSortOrdered_g1_env : EnvOk TT Try.prog slices_insertionSortOrdered_g1_C.E := envG (fnCall_ok cmpLess_ok) (envNil)
def slices_insertionSortOrdered_g1_cuts : List (Pos × Cut) := [([false, true], ⟨[0, 1, 2, 6], [], false, []⟩), ([false, true, false, false, true, false, false, true], ⟨[0, 1, 2, 6, 7], [], false, []⟩), ([false, false, false, true, false, false, true, false, false, true], ⟨[0, 1, 2, 6, 7, 30], [], false, []⟩)]
noncomputable def slices_insertionSortOrdered_g1 (n : Nat) (x0 : List Int) (x1 : Nat) (x2 : Nat) (x3 : Int) (x4 : Int) : Option ((List Int × Unit) × (Unit)) := topG TT Try.prog slices_insertionSortOrdered_g1_C slices_insertionSortOrdered_g1_cuts Try.f65 (bodyOf Try.f65) ⟨[], [], []⟩ [.slr 3 (.int .i64), .val (.int .i64), .val (.int .i64)] [.row 3 (.int .i64)] [] n ((x0, x1, x2), x3, x4, ())
noncomputable def slices_insertionSortOrdered_g1_L0 (n : Nat) (s0o : Nat) (s0n : Nat) (s1 : Int) (s2 : Int) (s6 : Int) (r0 : List Int) : Option ((List Int × Unit) × (Unit)) := cutG TT Try.prog slices_insertionSortOrdered_g1_C slices_insertionSortOrdered_g1_cuts Try.f65 (bodyOf Try.f65) ⟨[], [], []⟩ [.row 3 (.int .i64)] [] n [false, true] ⟨[(0, .sl 0 1 s0o s0n), (1, .cell ⟨.int .i64, s1⟩), (2, .cell ⟨.int .i64, s2⟩), (6, .cell ⟨.int .i64, s6⟩)], [.row 3 (.int .i64) r0]⟩
noncomputable def slices_insertionSortOrdered_g1_L1 (n : Nat) (s0o : Nat) (s0n : Nat) (s1 : Int) (s2 : Int) (s6 : Int) (s7 : Int) (r0 : List Int) : Option ((List Int × Unit) × (Unit)) := cutG TT Try.prog slices_insertionSortOrdered_g1_C slices_insertionSortOrdered_g1_cuts Try.f65 (bodyOf Try.f65) ⟨[], [], []⟩ [.row 3 (.int .i64)] [] n [false, true, false, false, true, false, false, true] ⟨[(0, .sl 0 1 s0o s0n), (1, .cell ⟨.int .i64, s1⟩), (2, .cell ⟨.int .i64, s2⟩), (6, .cell ⟨.int .i64, s6⟩), (7, .cell ⟨.int .i64, s7⟩)], [.row 3 (.int .i64) r0]⟩
noncomputable def slices_insertionSortOrdered_g1_J2 (n : Nat) (s0o : Nat) (s0n : Nat) (s1 : Int) (s2 : Int) (s6 : Int) (s7 : Int) (s30 : Bool) (r0 : List Int) : Option ((List Int × Unit) × (Unit)) := cutG TT Try.prog slices_insertionSortOrdered_g1_C slices_insertionSortOrdered_g1_cuts Try.f65 (bodyOf Try.f65) ⟨[], [], []⟩ [.row 3 (.int .i64)] [] n [false, false, false, true, false, false, true, false, false, true] ⟨[(0, .sl 0 1 s0o s0n), (1, .cell ⟨.int .i64, s1⟩), (2, .cell ⟨.int .i64, s2⟩), (6, .cell ⟨.int .i64, s6⟩), (7, .cell ⟨.int .i64, s7⟩), (30, .cell ⟨.bool, s30⟩)], [.row 3 (.int .i64) r0]⟩
theorem slices_insertionSortOrdered_g1_eq (n : Nat) (x0 : List Int) (x1 : Nat) (x2 : Nat) (x3 : Int) (x4 : Int) : slices_insertionSortOrdered_g1 n x0 x1 x2 x3 x4 =
  slices_insertionSortOrdered_g1_L0 n x1 x2 x3 x4 (IntKind.i64.wrap (x3 + (1 : Int))) x0 := by kernel_rfl
theorem slices_insertionSortOrdered_g1_L0_eq (n : Nat) (s0o : Nat) (s0n : Nat) (s1 : Int) (s2 : Int) (s6 : Int) (r0 : List Int) : slices_insertionSortOrdered_g1_L0 (n + 1) s0o s0n s1 s2 s6 r0 =
  forkB (decide (s6 < s2))
  (slices_insertionSortOrdered_g1_L1 n s0o s0n s1 s2 s6 s6 r0)
  (some ((r0, ()), ())) := by kernel_rfl
theorem slices_insertionSortOrdered_g1_L1_eq (n : Nat) (s0o : Nat) (s0n : Nat) (s1 : Int) (s2 : Int) (s6 : Int) (s7 : Int) (r0 : List Int) : slices_insertionSortOrdered_g1_L1 (n + 1) s0o s0n s1 s2 s6 s7 r0 =
  forkB (decide (s7 > s1))
  (if 0 ≤ s7 ∧ s7 < ((s0n : Nat) : Int) then (if s0o + s7.toNat < r0.length then (if 0 ≤ IntKind.i64.wrap (s7 - (1 : Int)) ∧ IntKind.i64.wrap (s7 - (1 : Int)) < ((s0n : Nat) : Int) then (if s0o + ((IntKind.i64.wrap (s7 - (1 : Int))).toNat) < r0.length then (obind (cmpLess BIG (r0.getD (s0o + s7.toNat) (0 : Int)) (r0.getD (s0o + ((IntKind.i64.wrap (s7 - (1 : Int))).toNat)) (0 : Int))) fun y1 =>
   slices_insertionSortOrdered_g1_J2 n s0o s0n s1 s2 s6 s7 y1 r0) else none) else none) else none) else none)
  (slices_insertionSortOrdered_g1_J2 n s0o s0n s1 s2 s6 s7 false r0) := by kernel_rfl
theorem slices_insertionSortOrdered_g1_J2_eq (n : Nat) (s0o : Nat) (s0n : Nat) (s1 : Int) (s2 : Int) (s6 : Int) (s7 : Int) (s30 : Bool) (r0 : List Int) : slices_insertionSortOrdered_g1_J2 (n + 1) s0o s0n s1 s2 s6 s7 s30 r0 =
  forkB s30
  (if 0 ≤ IntKind.i64.wrap (s7 - (1 : Int)) ∧ IntKind.i64.wrap (s7 - (1 : Int)) < ((s0n : Nat) : Int) then (if s0o + ((IntKind.i64.wrap (s7 - (1 : Int))).toNat) < r0.length then (if 0 ≤ s7 ∧ s7 < ((s0n : Nat) : Int) then (if s0o + s7.toNat < r0.length then (if 0 ≤ s7 ∧ s7 < ((s0n : Nat) : Int) then (if s0o + s7.toNat < r0.length then (if 0 ≤ IntKind.i64.wrap (s7 - (1 : Int)) ∧ IntKind.i64.wrap (s7 - (1 : Int)) < ((s0n : Nat) : Int) then (if s0o + ((IntKind.i64.wrap (s7 - (1 : Int))).toNat) < (r0.set (s0o + s7.toNat) (r0.getD (s0o + ((IntKind.i64.wrap (s7 - (1 : Int))).toNat)) (0 : Int))).length then (slices_insertionSortOrdered_g1_L1 n s0o s0n s1 s2 s6 (IntKind.i64.wrap (s7 - (1 : Int))) ((r0.set (s0o + s7.toNat) (r0.getD (s0o + ((IntKind.i64.wrap (s7 - (1 : Int))).toNat)) (0 : Int))).set (s0o + ((IntKind.i64.wrap (s7 - (1 : Int))).toNat)) (r0.getD (s0o + s7.toNat) (0 : Int)))) else none) else none) else none) else none) else none) else none) else none) else none)
  (slices_insertionSortOrdered_g1_L0 n s0o s0n s1 s2 (IntKind.i64.wrap (s6 + (1 : Int))) r0) := by kernel_rfl
noncomputable def slices_insertionSortOrdered_g1_sp : GSpec TT := ⟨[.slr 3 (.int .i64), .val (.int .i64), .val (.int .i64)], [.row 3 (.int .i64)], [], fun x => slices_insertionSortOrdered_g1 BIG x.1.1 x.1.2.1 x.1.2.2 x.2.1 x.2.2.1⟩
theorem slices_insertionSortOrdered_g1_ok : GOk TT Try.prog 65 slices_insertionSortOrdered_g1_sp := gOk_of (C := slices_insertionSortOrdered_g1_C) (cuts := slices_insertionSortOrdered_g1_cuts) (by kernel_rfl) slices_insertionSortOrdered_g1_env Try.func65 (show Try.f65.body = some (bodyOf Try.f65) by kernel_rfl) (by kernel_rfl) (by kernel_rfl) (by kernel_rfl) fun x y h => ⟨BIG, h⟩
noncomputable def slices_pdqsortOrdered_g1_C : Ctx TT := ⟨tyOf, [(65, slices_insertionSortOrdered_g1_sp.toCall (slices_insertionSortOrdered_sp.toCall))], 1, []⟩
theorem slices_pdqsortOrdered_g1_env : EnvOk TT Try.prog slices_pdqsortOrdered_g1_C.E := envG (gCall_ok slices_insertionSortOrdered_g1_ok (fnCall_ok slices_insertionSortOrdered_ok)) (envNil)
def slices_pdqsortOrdered_g1_cuts : List (Pos × Cut) := [([false, true, true], ⟨[0, 1, 2, 3, 8, 9], [], false, []⟩), ([true, true, true, false, false, false, true, true], ⟨[0, 1, 2, 3, 8, 9, 10], [], false, []⟩)]
noncomputable def slices_pdqsortOrdered_g1 (n : Nat) (x0 : List Int) (x1 : Nat) (x2 : Nat) (x3 : Int) (x4 : Int) (x5 : Int) : Option ((List Int × Unit) × (Unit)) := topG TT Try.prog slices_pdqsortOrdered_g1_C slices_pdqsortOrdered_g1_cuts Try.f61 (bodyOf Try.f61) ⟨[], [], []⟩ [.slr 3 (.int .i64), .val (.int .i64), .val (.int .i64), .val (.int .i64)] [.row 3 (.int .i64)] [] n ((x0, x1, x2), x3, x4, x5, ())
noncomputable def slices_pdqsortOrdered_g1_L0 (n : Nat) (s0o : Nat) (s0n : Nat) (s1 : Int) (s2 : Int) (s3 : Int) (s8 : Bool) (s9 : Bool) (r0 : List Int) : Option ((List Int × Unit) × (Unit)) := cutG TT Try.prog slices_pdqsortOrdered_g1_C slices_pdqsortOrdered_g1_cuts Try.f61 (bodyOf Try.f61) ⟨[], [], []⟩ [.row 3 (.int .i64)] [] n [false, true, true] ⟨[(0, .sl 0 1 s0o s0n), (1, .cell ⟨.int .i64, s1⟩), (2, .cell ⟨.int .i64, s2⟩), (3, .cell ⟨.int .i64, s3⟩), (8, .cell ⟨.bool, s8⟩), (9, .cell ⟨.bool, s9⟩)], [.row 3 (.int .i64) r0]⟩
noncomputable def slices_pdqsortOrdered_g1_J1 (n : Nat) (s0o : Nat) (s0n : Nat) (s1 : Int) (s2 : Int) (s3 : Int) (s8 : Bool) (s9 : Bool) (s10 : Int) (r0 : List Int) : Option ((List Int × Unit) × (Unit)) := cutG TT Try.prog slices_pdqsortOrdered_g1_C slices_pdqsortOrdered_g1_cuts Try.f61 (bodyOf Try.f61) ⟨[], [], []⟩ [.row 3 (.int .i64)] [] n [true, true, true, false, false, false, true, true] ⟨[(0, .sl 0 1 s0o s0n), (1, .cell ⟨.int .i64, s1⟩), (2, .cell ⟨.int .i64, s2⟩), (3, .cell ⟨.int .i64, s3⟩), (8, .cell ⟨.bool, s8⟩), (9, .cell ⟨.bool, s9⟩), (10, .cell ⟨.int .i64, s10⟩)], [.row 3 (.int .i64) r0]⟩
theorem slices_pdqsortOrdered_g1_eq (n : Nat) (x0 : List Int) (x1 : Nat) (x2 : Nat) (x3 : Int) (x4 : Int) (x5 : Int) : slices_pdqsortOrdered_g1 n x0 x1 x2 x3 x4 x5 =
  slices_pdqsortOrdered_g1_L0 n x1 x2 x3 x4 x5 true true x0 := by kernel_rfl
theorem slices_pdqsortOrdered_g1_L0_eq (n : Nat) (s0o : Nat) (s0n : Nat) (s1 : Int) (s2 : Int) (s3 : Int) (s8 : Bool) (s9 : Bool) (r0 : List Int) : slices_pdqsortOrdered_g1_L0 (n + 1) s0o s0n s1 s2 s3 s8 s9 r0 =
  forkB (decide ((IntKind.i64.wrap (s2 - s1)) ≤ (12 : Int)))
  (obind (slices_insertionSortOrdered_g1 BIG r0 s0o s0n s1 s2) fun y1 =>
   some ((y1.1.1, ()), ()))
  (forkB (s3 == (0 : Int))
   (none)
   (forkB (!s8)
    (none)
    (slices_pdqsortOrdered_g1_J1 n s0o s0n s1 s2 s3 s8 s9 (IntKind.i64.wrap (s2 - s1)) r0))) := by kernel_rfl
theorem slices_pdqsortOrdered_g1_J1_eq (n : Nat) (s0o : Nat) (s0n : Nat) (s1 : Int) (s2 : Int) (s3 : Int) (s8 : Bool) (s9 : Bool) (s10 : Int) (r0 : List Int) : slices_pdqsortOrdered_g1_J1 (n + 1) s0o s0n s1 s2 s3 s8 s9 s10 r0 =
  none := by kernel_rfl
noncomputable def slices_pdqsortOrdered_g1_sp : GSpec TT := ⟨[.slr 3 (.int .i64), .val (.int .i64), .val (.int .i64), .val (.int .i64)], [.row 3 (.int .i64)], [], fun x => slices_pdqsortOrdered_g1 BIG x.1.1 x.1.2.1 x.1.2.2 x.2.1 x.2.2.1 x.2.2.2.1⟩
theorem slices_pdqsortOrdered_g1_ok : GOk TT Try.prog 61 slices_pdqsortOrdered_g1_sp := gOk_of (C := slices_pdqsortOrdered_g1_C) (cuts := slices_pdqsortOrdered_g1_cuts) (by kernel_rfl) slices_pdqsortOrdered_g1_env Try.func61 (show Try.f61.body = some (bodyOf Try.f61) by kernel_rfl) (by kernel_rfl) (by kernel_rfl) (by kernel_rfl) fun x y h => ⟨BIG, h⟩
noncomputable def slicesSort_g1_C : Ctx TT := ⟨tyOf, [(62, bitsLen_sp.toCall), (61, slices_pdqsortOrdered_g1_sp.toCall (slices_pdqsortOrdered_sp.toCall))], 1, []⟩
theorem slicesSort_g1_env : EnvOk TT Try.prog slicesSort_g1_C.E := envG (fnCall_ok bitsLen_ok) (envG (gCall_ok slices_pdqsortOrdered_g1_ok (fnCall_ok slices_pdqsortOrdered_ok)) (envNil))
def slicesSort_g1_cuts : List (Pos × Cut) := []
noncomputable def slicesSort_g1 (n : Nat) (x0 : List Int) (x1 : Nat) (x2 : Nat) : Option ((List Int × Unit) × (Unit)) := topG TT Try.prog slicesSort_g1_C slicesSort_g1_cuts Try.f44 (bodyOf Try.f44) ⟨[], [], []⟩ [.slr 3 (.int .i64)] [.row 3 (.int .i64)] [] n ((x0, x1, x2), ())
theorem slicesSort_g1_eq (n : Nat) (x0 : List Int) (x1 : Nat) (x2 : Nat) : slicesSort_g1 n x0 x1 x2 =
  obind (bitsLen BIG (IntKind.u64.wrap ((x2 : Nat) : Int))) fun y1 =>
  obind (slices_pdqsortOrdered_g1 BIG x0 x1 x2 (0 : Int) ((x2 : Nat) : Int) y1) fun y2 =>
  some ((y2.1.1, ()), ()) := by kernel_rfl
noncomputable def slicesSort_g1_sp : GSpec TT := ⟨[.slr 3 (.int .i64)], [.row 3 (.int .i64)], [], fun x => slicesSort_g1 BIG x.1.1 x.1.2.1 x.1.2.2⟩
theorem slicesSort_g1_ok : GOk TT Try.prog 44 slicesSort_g1_sp := gOk_of (C := slicesSort_g1_C) (cuts := slicesSort_g1_cuts) (by kernel_rfl) slicesSort_g1_env Try.func44 (show Try.f44.body = some (bodyOf Try.f44) by kernel_rfl) (by kernel_rfl) (by kernel_rfl) (by kernel_rfl) fun x y h => ⟨BIG, h⟩
noncomputable def slicesCompact_g1_C : Ctx TT := ⟨tyOf, [], 1, []⟩
theorem slicesCompact_g1_env : EnvOk TT Try.prog slicesCompact_g1_C.E := envNil
def slicesCompact_g1_cuts : List (Pos × Cut) := [([false, true, false, true, true], ⟨[0, 3], [], false, []⟩), ([false, true, false, true, false, true, false, false, true, false, false, true, false, true, true], ⟨[0, 3, 4, 5], [], false, []⟩), ([true, false, false, true, false, true, false, true, false, false, true, false, false, true, false, true, true], ⟨[0, 3, 4, 5], [], false, []⟩)]
noncomputable def slicesCompact_g1 (n : Nat) (x0 : List Int) (x1 : Nat) (x2 : Nat) : Option ((List Int × Unit) × ((Nat × Nat) × Unit)) := topG TT Try.prog slicesCompact_g1_C slicesCompact_g1_cuts Try.f45 (bodyOf Try.f45) ⟨[], [], []⟩ [.slr 3 (.int .i64)] [.row 3 (.int .i64)] [.part 0 1] n ((x0, x1, x2), ())
noncomputable def slicesCompact_g1_L0 (n : Nat) (s0o : Nat) (s0n : Nat) (s3 : Int) (r0 : List Int) : Option ((List Int × Unit) × ((Nat × Nat) × Unit)) := cutG TT Try.prog slicesCompact_g1_C slicesCompact_g1_cuts Try.f45 (bodyOf Try.f45) ⟨[], [], []⟩ [.row 3 (.int .i64)] [.part 0 1] n [false, true, false, true, true] ⟨[(0, .sl 0 1 s0o s0n), (3, .cell ⟨.int .i64, s3⟩)], [.row 3 (.int .i64) r0]⟩
noncomputable def slicesCompact_g1_L1 (n : Nat) (s0o : Nat) (s0n : Nat) (s3 : Int) (s4o : Nat) (s4n : Nat) (s5 : Int) (r0 : List Int) : Option ((List Int × Unit) × ((Nat × Nat) × Unit)) := cutG TT Try.prog slicesCompact_g1_C slicesCompact_g1_cuts Try.f45 (bodyOf Try.f45) ⟨[], [], []⟩ [.row 3 (.int .i64)] [.part 0 1] n [false, true, false, true, false, true, false, false, true, false, false, true, false, true, true] ⟨[(0, .sl 0 1 s0o s0n), (3, .cell ⟨.int .i64, s3⟩), (4, .sl 0 1 s4o s4n), (5, .cell ⟨.int .i64, s5⟩)], [.row 3 (.int .i64) r0]⟩
noncomputable def slicesCompact_g1_J2 (n : Nat) (s0o : Nat) (s0n : Nat) (s3 : Int) (s4o : Nat) (s4n : Nat) (s5 : Int) (r0 : List Int) : Option ((List Int × Unit) × ((Nat × Nat) × Unit)) := cutG TT Try.prog slicesCompact_g1_C slicesCompact_g1_cuts Try.f45 (bodyOf Try.f45) ⟨[], [], []⟩ [.row 3 (.int .i64)] [.part 0 1] n [true, false, false, true, false, true, false, true, false, false, true, false, false, true, false, true, true] ⟨[(0, .sl 0 1 s0o s0n), (3, .cell ⟨.int .i64, s3⟩), (4, .sl 0 1 s4o s4n), (5, .cell ⟨.int .i64, s5⟩)], [.row 3 (.int .i64) r0]⟩
theorem slicesCompact_g1_eq (n : Nat) (x0 : List Int) (x1 : Nat) (x2 : Nat) : slicesCompact_g1 n x0 x1 x2 =
  forkB (decide (((x2 : Nat) : Int) < (2 : Int)))
  (some ((x0, ()), ((x1, x2), ())))
  (slicesCompact_g1_L0 n x1 x2 (1 : Int) x0) := by kernel_rfl
theorem slicesCompact_g1_L0_eq (n : Nat) (s0o : Nat) (s0n : Nat) (s3 : Int) (r0 : List Int) : slicesCompact_g1_L0 (n + 1) s0o s0n s3 r0 =
  forkB (decide (s3 < ((s0n : Nat) : Int)))
  (if 0 ≤ s3 ∧ s3 < ((s0n : Nat) : Int) then (if s0o + s3.toNat < r0.length then (if 0 ≤ IntKind.i64.wrap (s3 - (1 : Int)) ∧ IntKind.i64.wrap (s3 - (1 : Int)) < ((s0n : Nat) : Int) then (if s0o + ((IntKind.i64.wrap (s3 - (1 : Int))).toNat) < r0.length then (forkB ((r0.getD (s0o + s3.toNat) (0 : Int)) == (r0.getD (s0o + ((IntKind.i64.wrap (s3 - (1 : Int))).toNat)) (0 : Int)))
   (if 0 ≤ s3 ∧ s3 ≤ ((s0n : Nat) : Int) ∧ (((s0n : Nat) : Int) ≤ ((s0n : Nat) : Int) ∨ (((s0o : Nat) : Int) + ((s0n : Nat) : Int) ≤ ((r0.length : Nat) : Int) ∧ (s0o = 0 ∨ 0 < s0n))) then (slicesCompact_g1_L1 n s0o s0n s3 (s0o + s3.toNat) ((((s0n : Nat) : Int).toNat) - s3.toNat) (1 : Int) r0) else none)
   (slicesCompact_g1_L0 n s0o s0n (IntKind.i64.wrap (s3 + (1 : Int))) r0)) else none) else none) else none) else none)
  (some ((r0, ()), ((s0o, s0n), ()))) := by kernel_rfl
theorem slicesCompact_g1_L1_eq (n : Nat) (s0o : Nat) (s0n : Nat) (s3 : Int) (s4o : Nat) (s4n : Nat) (s5 : Int) (r0 : List Int) : slicesCompact_g1_L1 (n + 1) s0o s0n s3 s4o s4n s5 r0 =
  forkB (decide (s5 < ((s4n : Nat) : Int)))
  (if 0 ≤ s5 ∧ s5 < ((s4n : Nat) : Int) then (if s4o + s5.toNat < r0.length then (if 0 ≤ IntKind.i64.wrap (s5 - (1 : Int)) ∧ IntKind.i64.wrap (s5 - (1 : Int)) < ((s4n : Nat) : Int) then (if s4o + ((IntKind.i64.wrap (s5 - (1 : Int))).toNat) < r0.length then (forkB ((r0.getD (s4o + s5.toNat) (0 : Int)) != (r0.getD (s4o + ((IntKind.i64.wrap (s5 - (1 : Int))).toNat)) (0 : Int)))
   (if 0 ≤ s5 ∧ s5 < ((s4n : Nat) : Int) then (if s4o + s5.toNat < r0.length then (if 0 ≤ s3 ∧ s3 < ((s0n : Nat) : Int) then (if s0o + s3.toNat < r0.length then (slicesCompact_g1_J2 n s0o s0n (IntKind.i64.wrap (s3 + (1 : Int))) s4o s4n s5 (r0.set (s0o + s3.toNat) (r0.getD (s4o + s5.toNat) (0 : Int)))) else none) else none) else none) else none)
   (slicesCompact_g1_J2 n s0o s0n s3 s4o s4n s5 r0)) else none) else none) else none) else none)
  (if 0 ≤ s3 ∧ s3 ≤ ((s0n : Nat) : Int) ∧ (((s0n : Nat) : Int) ≤ ((s0n : Nat) : Int) ∨ (((s0o : Nat) : Int) + ((s0n : Nat) : Int) ≤ ((r0.length : Nat) : Int) ∧ (s0o = 0 ∨ 0 < s0n))) then (if (s0o + s3.toNat) + ((((s0n : Nat) : Int).toNat) - s3.toNat) ≤ r0.length then (if 0 ≤ (0 : Int) ∧ (0 : Int) ≤ s3 ∧ (s3 ≤ ((s0n : Nat) : Int) ∨ (((s0o : Nat) : Int) + s3 ≤ (((List.take (s0o + s3.toNat) r0 ++ (List.replicate ((((s0n : Nat) : Int).toNat) - s3.toNat) (0 : Int) ++ List.drop ((s0o + s3.toNat) + ((((s0n : Nat) : Int).toNat) - s3.toNat)) r0)).length : Nat) : Int) ∧ (s0o = 0 ∨ 0 < s0n))) then (some ((List.take (s0o + s3.toNat) r0 ++ (List.replicate ((((s0n : Nat) : Int).toNat) - s3.toNat) (0 : Int) ++ List.drop ((s0o + s3.toNat) + ((((s0n : Nat) : Int).toNat) - s3.toNat)) r0), ()), ((s0o + 0, s3.toNat - 0), ()))) else none) else none) else none) := by kernel_rfl
theorem slicesCompact_g1_J2_eq (n : Nat) (s0o : Nat) (s0n : Nat) (s3 : Int) (s4o : Nat) (s4n : Nat) (s5 : Int) (r0 : List Int) : slicesCompact_g1_J2 (n + 1) s0o s0n s3 s4o s4n s5 r0 =
  slicesCompact_g1_L1 n s0o s0n s3 s4o s4n (IntKind.i64.wrap (s5 + (1 : Int))) r0 := by kernel_rfl
noncomputable def slicesCompact_g1_sp : GSpec TT := ⟨[.slr 3 (.int .i64)], [.row 3 (.int .i64)], [.part 0 1], fun x => slicesCompact_g1 BIG x.1.1 x.1.2.1 x.1.2.2⟩
theorem slicesCompact_g1_ok : GOk TT Try.prog 45 slicesCompact_g1_sp := gOk_of (C := slicesCompact_g1_C) (cuts := slicesCompact_g1_cuts) (by kernel_rfl) slicesCompact_g1_env Try.func45 (show Try.f45.body = some (bodyOf Try.f45) by kernel_rfl) (by kernel_rfl) (by kernel_rfl) (by kernel_rfl) fun x y h => ⟨BIG, h⟩
noncomputable def slicesCompact_g2_C : Ctx TT := ⟨tyOf, [], 1, []⟩
theorem slicesCompact_g2_env : EnvOk TT Try.prog slicesCompact_g2_C.E := envNil
def slicesCompact_g2_cuts : List (Pos × Cut) := [([false, true, false, true, true], ⟨[0, 3], [], false, []⟩), ([false, true, false, true, false, true, false, false, true, false, false, true, false, true, true], ⟨[0, 3, 4, 5], [], false, []⟩), ([true, false, false, true, false, true, false, true, false, false, true, false, false, true, false, true, true], ⟨[0, 3, 4, 5], [], false, []⟩)]
noncomputable def slicesCompact_g2 (n : Nat) (x0 : List Int) : Option ((List Int × Unit) × ((Nat × Nat) × Unit)) := topG TT Try.prog slicesCompact_g2_C slicesCompact_g2_cuts Try.f45 (bodyOf Try.f45) ⟨[], [0], []⟩ [.row 3 (.int .i64)] [.row 3 (.int .i64)] [.part 0 1] n (x0, ())
noncomputable def slicesCompact_g2_L0 (n : Nat) (s3 : Int) (r0 : List Int) : Option ((List Int × Unit) × ((Nat × Nat) × Unit)) := cutG TT Try.prog slicesCompact_g2_C slicesCompact_g2_cuts Try.f45 (bodyOf Try.f45) ⟨[], [0], []⟩ [.row 3 (.int .i64)] [.part 0 1] n [false, true, false, true, true] ⟨[(0, .own 0), (3, .cell ⟨.int .i64, s3⟩)], [.row 3 (.int .i64) r0]⟩
noncomputable def slicesCompact_g2_L1 (n : Nat) (s3 : Int) (s4o : Nat) (s4n : Nat) (s5 : Int) (r0 : List Int) : Option ((List Int × Unit) × ((Nat × Nat) × Unit)) := cutG TT Try.prog slicesCompact_g2_C slicesCompact_g2_cuts Try.f45 (bodyOf Try.f45) ⟨[], [0], []⟩ [.row 3 (.int .i64)] [.part 0 1] n [false, true, false, true, false, true, false, false, true, false, false, true, false, true, true] ⟨[(0, .own 0), (3, .cell ⟨.int .i64, s3⟩), (4, .sl 0 1 s4o s4n), (5, .cell ⟨.int .i64, s5⟩)], [.row 3 (.int .i64) r0]⟩
noncomputable def slicesCompact_g2_J2 (n : Nat) (s3 : Int) (s4o : Nat) (s4n : Nat) (s5 : Int) (r0 : List Int) : Option ((List Int × Unit) × ((Nat × Nat) × Unit)) := cutG TT Try.prog slicesCompact_g2_C slicesCompact_g2_cuts Try.f45 (bodyOf Try.f45) ⟨[], [0], []⟩ [.row 3 (.int .i64)] [.part 0 1] n [true, false, false, true, false, true, false, true, false, false, true, false, false, true, false, true, true] ⟨[(0, .own 0), (3, .cell ⟨.int .i64, s3⟩), (4, .sl 0 1 s4o s4n), (5, .cell ⟨.int .i64, s5⟩)], [.row 3 (.int .i64) r0]⟩
theorem slicesCompact_g2_eq (n : Nat) (x0 : List Int) : slicesCompact_g2 n x0 =
  forkB (decide (((x0.length : Nat) : Int) < (2 : Int)))
  (some ((x0, ()), ((0, x0.length), ())))
  (slicesCompact_g2_L0 n (1 : Int) x0) := by kernel_rfl
theorem slicesCompact_g2_L0_eq (n : Nat) (s3 : Int) (r0 : List Int) : slicesCompact_g2_L0 (n + 1) s3 r0 =
  forkB (decide (s3 < ((r0.length : Nat) : Int)))
  (if 0 ≤ s3 ∧ s3 < ((r0.length : Nat) : Int) then (if 0 ≤ IntKind.i64.wrap (s3 - (1 : Int)) ∧ IntKind.i64.wrap (s3 - (1 : Int)) < ((r0.length : Nat) : Int) then (forkB ((r0.getD s3.toNat (0 : Int)) == (r0.getD ((IntKind.i64.wrap (s3 - (1 : Int))).toNat) (0 : Int)))
   (if 0 ≤ s3 ∧ s3 ≤ ((r0.length : Nat) : Int) ∧ ((r0.length : Nat) : Int) ≤ ((r0.length : Nat) : Int) then (slicesCompact_g2_L1 n s3 s3.toNat ((((r0.length : Nat) : Int).toNat) - s3.toNat) (1 : Int) r0) else none)
   (slicesCompact_g2_L0 n (IntKind.i64.wrap (s3 + (1 : Int))) r0)) else none) else none)
  (some ((r0, ()), ((0, r0.length), ()))) := by kernel_rfl
theorem slicesCompact_g2_L1_eq (n : Nat) (s3 : Int) (s4o : Nat) (s4n : Nat) (s5 : Int) (r0 : List Int) : slicesCompact_g2_L1 (n + 1) s3 s4o s4n s5 r0 =
  forkB (decide (s5 < ((s4n : Nat) : Int)))
  (if 0 ≤ s5 ∧ s5 < ((s4n : Nat) : Int) then (if s4o + s5.toNat < r0.length then (if 0 ≤ IntKind.i64.wrap (s5 - (1 : Int)) ∧ IntKind.i64.wrap (s5 - (1 : Int)) < ((s4n : Nat) : Int) then (if s4o + ((IntKind.i64.wrap (s5 - (1 : Int))).toNat) < r0.length then (forkB ((r0.getD (s4o + s5.toNat) (0 : Int)) != (r0.getD (s4o + ((IntKind.i64.wrap (s5 - (1 : Int))).toNat)) (0 : Int)))
   (if 0 ≤ s5 ∧ s5 < ((s4n : Nat) : Int) then (if s4o + s5.toNat < r0.length then (if 0 ≤ s3 ∧ s3 < ((r0.length : Nat) : Int) then (slicesCompact_g2_J2 n (IntKind.i64.wrap (s3 + (1 : Int))) s4o s4n s5 (r0.set s3.toNat (r0.getD (s4o + s5.toNat) (0 : Int)))) else none) else none) else none)
   (slicesCompact_g2_J2 n s3 s4o s4n s5 r0)) else none) else none) else none) else none)
  (if 0 ≤ s3 ∧ s3 ≤ ((r0.length : Nat) : Int) ∧ ((r0.length : Nat) : Int) ≤ ((r0.length : Nat) : Int) then (if s3.toNat + ((((r0.length : Nat) : Int).toNat) - s3.toNat) ≤ r0.length then (if 0 ≤ (0 : Int) ∧ (0 : Int) ≤ s3 ∧ s3 ≤ (((List.take s3.toNat r0 ++ (List.replicate ((((r0.length : Nat) : Int).toNat) - s3.toNat) (0 : Int) ++ List.drop (s3.toNat + ((((r0.length : Nat) : Int).toNat) - s3.toNat)) r0)).length : Nat) : Int) then (some ((List.take s3.toNat r0 ++ (List.replicate ((((r0.length : Nat) : Int).toNat) - s3.toNat) (0 : Int) ++ List.drop (s3.toNat + ((((r0.length : Nat) : Int).toNat) - s3.toNat)) r0), ()), ((0, s3.toNat - 0), ()))) else none) else none) else none) := by kernel_rfl
theorem slicesCompact_g2_J2_eq (n : Nat) (s3 : Int) (s4o : Nat) (s4n : Nat) (s5 : Int) (r0 : List Int) : slicesCompact_g2_J2 (n + 1) s3 s4o s4n s5 r0 =
  slicesCompact_g2_L1 n s3 s4o s4n (IntKind.i64.wrap (s5 + (1 : Int))) r0 := by kernel_rfl
noncomputable def slicesCompact_g2_sp : GSpec TT := ⟨[.row 3 (.int .i64)], [.row 3 (.int .i64)], [.part 0 1], fun x => slicesCompact_g2 BIG x.1⟩
theorem slicesCompact_g2_ok : GOk TT Try.prog 45 slicesCompact_g2_sp := gOk_of (C := slicesCompact_g2_C) (cuts := slicesCompact_g2_cuts) (by kernel_rfl) slicesCompact_g2_env Try.func45 (show Try.f45.body = some (bodyOf Try.f45) by kernel_rfl) (by kernel_rfl) (by kernel_rfl) (by kernel_rfl) fun x y h => ⟨BIG, h⟩
noncomputable def insNext_g1_C : Ctx TT := ⟨tyOf, [(13, insRight_sp.toCall), (15, insJumps_sp.toCall), (44, slicesSort_g1_sp.toCall (slicesSort_sp.toCall)), (45, slicesCompact_g2_sp.toCall (slicesCompact_g1_sp.toCall (noCall TT)))], 0, []⟩
theorem insNext_g1_env : EnvOk TT Try.prog insNext_g1_C.E := envG (fnCall_ok insRight_ok) (envG (fnCall_ok insJumps_ok) (envG (gCall_ok slicesSort_g1_ok (fnCall_ok slicesSort_ok)) (envG (gCall_ok slicesCompact_g2_ok (gCall_ok slicesCompact_g1_ok (noCall_ok 45))) (envNil))))
def insNext_g1_cuts : List (Pos × Cut) := [([false, true], ⟨[0, 1, 29], [], false, []⟩), ([true, true, true], ⟨[0, 1, 5], [], false, []⟩)]
noncomputable def insNext_g1 (n : Nat) (x0 : List Ins) (x1 : Int) : Option ((Unit) × ((List Int × Nat × Nat) × Unit)) := topG TT Try.prog insNext_g1_C insNext_g1_cuts Try.f18 (bodyOf Try.f18) ⟨[(0, 3, .int .i64, false)], [], []⟩ [.val (.list (.user 0)), .val (.int .i64)] [] [.slr 3 (.int .i64)] n (x0, x1, ())
noncomputable def insNext_g1_J0 (n : Nat) (s0 : List Ins) (s1 : Int) (s29 : Bool) : Option ((Unit) × ((List Int × Nat × Nat) × Unit)) := cutG TT Try.prog insNext_g1_C insNext_g1_cuts Try.f18 (bodyOf Try.f18) ⟨[(0, 3, .int .i64, false)], [], []⟩ [] [.slr 3 (.int .i64)] n [false, true] ⟨[(0, .cell ⟨.list (.user 0), s0⟩), (1, .cell ⟨.int .i64, s1⟩), (29, .cell ⟨.bool, s29⟩)], []⟩
noncomputable def insNext_g1_J1 (n : Nat) (s0 : List Ins) (s1 : Int) (r0 : List Int) : Option ((Unit) × ((List Int × Nat × Nat) × Unit)) := cutG TT Try.prog insNext_g1_C insNext_g1_cuts Try.f18 (bodyOf Try.f18) ⟨[(0, 3, .int .i64, false)], [], []⟩ [] [.slr 3 (.int .i64)] n [true, true, true] ⟨[(0, .cell ⟨.list (.user 0), s0⟩), (1, .cell ⟨.int .i64, s1⟩), (5, .own 0)], [.row 3 (.int .i64) r0]⟩
theorem insNext_g1_eq (n : Nat) (x0 : List Ins) (x1 : Int) : insNext_g1 n x0 x1 =
  forkB (decide (x1 < (0 : Int)))
  (insNext_g1_J0 n x0 x1 true)
  (forkB (decide (x1 ≥ ((x0.length : Nat) : Int)))
   (insNext_g1_J0 n x0 x1 true)
   (if 0 ≤ x1 ∧ x1 < ((x0.length : Nat) : Int) then (obind (insRight BIG (x0.getD x1.toNat dIns)) fun y1 =>
    forkB (!y1)
    (insNext_g1_J0 n x0 x1 true)
    (if 0 ≤ x1 ∧ x1 < ((x0.length : Nat) : Int) then (insNext_g1_J0 n x0 x1 (((x0.getD x1.toNat dIns).Op) == (28 : Int))) else none)) else none)) := by kernel_rfl
theorem insNext_g1_J0_eq (n : Nat) (s0 : List Ins) (s1 : Int) (s29 : Bool) : insNext_g1_J0 (n + 1) s0 s1 s29 =
  forkB s29
  (some ((), ((([] : List Int), 0, 0), ())))
  (if 0 ≤ s1 ∧ s1 < ((s0.length : Nat) : Int) then (obind (insJumps BIG (s0.getD s1.toNat dIns)) fun y1 =>
   forkB y1
   (if 0 ≤ s1 ∧ s1 < ((s0.length : Nat) : Int) then (insNext_g1_J1 n s0 s1 ([IntKind.i64.wrap (s1 + (1 : Int)), IntKind.i64.wrap ((IntKind.i64.wrap (s1 + (1 : Int))) + ((s0.getD s1.toNat dIns).Off))] : List Int)) else none)
   (insNext_g1_J1 n s0 s1 ([IntKind.i64.wrap (s1 + (1 : Int))] : List Int))) else none) := by kernel_rfl
theorem insNext_g1_J1_eq (n : Nat) (s0 : List Ins) (s1 : Int) (r0 : List Int) : insNext_g1_J1 (n + 1) s0 s1 r0 =
  if 0 ≤ s1 ∧ s1 < ((s0.length : Nat) : Int) then (forkB (((s0.getD s1.toNat dIns).Op) == (16 : Int))
  (if 0 ≤ (1 : Int) ∧ (1 : Int) ≤ ((r0.length : Nat) : Int) ∧ ((r0.length : Nat) : Int) ≤ ((r0.length : Nat) : Int) then (obind (slicesSort_g1 BIG r0 1 ((((r0.length : Nat) : Int).toNat) - 1)) fun y1 =>
   obind (slicesCompact_g1 BIG y1.1.1 1 ((((r0.length : Nat) : Int).toNat) - 1)) fun y2 =>
   some ((), ((y2.1.1, y2.2.1.1, y2.2.1.2), ()))) else none)
  (obind (slicesSort BIG r0) fun y3 =>
   obind (slicesCompact_g2 BIG y3.1) fun y4 =>
   some ((), ((y4.1.1, y4.2.1.1, y4.2.1.2), ())))) else none := by kernel_rfl
noncomputable def insNext_g1_sp : GSpec TT := ⟨[.val (.list (.user 0)), .val (.int .i64)], [], [.slr 3 (.int .i64)], fun x => insNext_g1 BIG x.1 x.2.1⟩
theorem insNext_g1_ok : GOk TT Try.prog 18 insNext_g1_sp := gOk_of (C := insNext_g1_C) (cuts := insNext_g1_cuts) (by kernel_rfl) insNext_g1_env Try.func18 (show Try.f18.body = some (bodyOf Try.f18) by kernel_rfl) (by kernel_rfl) (by kernel_rfl) (by kernel_rfl) fun x y h => ⟨BIG, h⟩
noncomputable def shapeCheck_4_g1_C : Ctx TT := ⟨tyOf, [(18, insNext_g1_sp.toCall (noCall TT)), (55, shape_when_sp.toCall)], 3, [(4, 0)]⟩
theorem shapeCheck_4_g1_env : EnvOk TT Try.prog shapeCheck_4_g1_C.E := envG (gCall_ok insNext_g1_ok (noCall_ok 18)) (envG (fnCall_ok shape_when_ok) (envNil))
def shapeCheck_4_g1_cuts : List (Pos × Cut) := [([false, true, false, true], ⟨[0, 2, 9, 10, 11], [], false, []⟩), ([true, true, false, false, true, false, true], ⟨[0, 2, 9, 10, 11], [], false, []⟩)]
noncomputable def shapeCheck_4_g1 (n : Nat) (x0 : Int) (x1 : List Ins) (x2 : List Bool) : Option (((List Ins × Unit) × (Unit × Unit) × List Bool × Unit) × (Int × Unit)) := topG TT Try.prog shapeCheck_4_g1_C shapeCheck_4_g1_cuts Try.f58 (bodyOf Try.f58) ⟨[], [], []⟩ [.val (.int .i64), .ptr 0 22 [.val (.list (.user 0))], .ptr 0 52 [.row 4 (.bool)]] [.blk 22 [.val (.list (.user 0))], .blk 52 [.own 2], .row 4 (.bool)] [.val (.int .i64)] n (x0, (x1, ()), (x2, ()), ())
noncomputable def shapeCheck_4_g1_L0 (n : Nat) (s0 : Int) (s9o : Nat) (s9n : Nat) (s10 : Int) (s11 : Int) (b0_0 : List Ins) (r2 : List Bool) (r3 : List Int) : Option (((List Ins × Unit) × (Unit × Unit) × List Bool × Unit) × (Int × Unit)) := cutG TT Try.prog shapeCheck_4_g1_C shapeCheck_4_g1_cuts Try.f58 (bodyOf Try.f58) ⟨[], [], []⟩ [.blk 22 [.val (.list (.user 0))], .blk 52 [.own 2], .row 4 (.bool)] [.val (.int .i64)] n [false, true, false, true] ⟨[(0, .cell ⟨.int .i64, s0⟩), (2, .ptr 1 0), (9, .sl 3 1 s9o s9n), (10, .cell ⟨.int .i64, s10⟩), (11, .cell ⟨.int .i64, s11⟩)], [.blk 22 [.cell ⟨.list (.user 0), b0_0⟩], .blk 52 [.own 2], .row 4 (.bool) r2, .row 3 (.int .i64) r3]⟩
noncomputable def shapeCheck_4_g1_J1 (n : Nat) (s0 : Int) (s9o : Nat) (s9n : Nat) (s10 : Int) (s11 : Int) (b0_0 : List Ins) (r2 : List Bool) (r3 : List Int) : Option (((List Ins × Unit) × (Unit × Unit) × List Bool × Unit) × (Int × Unit)) := cutG TT Try.prog shapeCheck_4_g1_C shapeCheck_4_g1_cuts Try.f58 (bodyOf Try.f58) ⟨[], [], []⟩ [.blk 22 [.val (.list (.user 0))], .blk 52 [.own 2], .row 4 (.bool)] [.val (.int .i64)] n [true, true, false, false, true, false, true] ⟨[(0, .cell ⟨.int .i64, s0⟩), (2, .ptr 1 0), (9, .sl 3 1 s9o s9n), (10, .cell ⟨.int .i64, s10⟩), (11, .cell ⟨.int .i64, s11⟩)], [.blk 22 [.cell ⟨.list (.user 0), b0_0⟩], .blk 52 [.own 2], .row 4 (.bool) r2, .row 3 (.int .i64) r3]⟩
theorem shapeCheck_4_g1_eq (n : Nat) (x0 : Int) (x1 : List Ins) (x2 : List Bool) : shapeCheck_4_g1 n x0 x1 x2 =
  obind (insNext_g1 BIG x1 x0) fun y1 =>
  shapeCheck_4_g1_L0 n x0 y1.2.1.2.1 y1.2.1.2.2 ((y1.2.1.2.2 : Nat) : Int) (0 : Int) x1 x2 y1.2.1.1 := by kernel_rfl
theorem shapeCheck_4_g1_L0_eq (n : Nat) (s0 : Int) (s9o : Nat) (s9n : Nat) (s10 : Int) (s11 : Int) (b0_0 : List Ins) (r2 : List Bool) (r3 : List Int) : shapeCheck_4_g1_L0 (n + 1) s0 s9o s9n s10 s11 b0_0 r2 r3 =
  forkB (decide (s11 < s10))
  (if 0 ≤ s11 ∧ s11 < ((s9n : Nat) : Int) then (if s9o + s11.toNat < r3.length then (if 0 ≤ r3.getD (s9o + s11.toNat) (0 : Int) ∧ r3.getD (s9o + s11.toNat) (0 : Int) < ((r2.length : Nat) : Int) then (forkB (r2.getD ((r3.getD (s9o + s11.toNat) (0 : Int)).toNat) false)
   (if 0 ≤ r3.getD (s9o + s11.toNat) (0 : Int) ∧ r3.getD (s9o + s11.toNat) (0 : Int) < ((r2.length : Nat) : Int) then (shapeCheck_4_g1_J1 n s0 s9o s9n s10 s11 b0_0 (r2.set ((r3.getD (s9o + s11.toNat) (0 : Int)).toNat) true) r3) else none)
   (if 0 ≤ s0 ∧ s0 < ((r2.length : Nat) : Int) then (if 0 ≤ r3.getD (s9o + s11.toNat) (0 : Int) ∧ r3.getD (s9o + s11.toNat) (0 : Int) < ((r2.length : Nat) : Int) then (shapeCheck_4_g1_J1 n s0 s9o s9n s10 s11 b0_0 (r2.set ((r3.getD (s9o + s11.toNat) (0 : Int)).toNat) (r2.getD s0.toNat false)) r3) else none) else none)) else none) else none) else none)
  (if 0 ≤ s0 ∧ s0 < ((r2.length : Nat) : Int) then (obind (shape_when BIG (!(r2.getD s0.toNat false)) (103 : Int)) fun y1 =>
   some (((b0_0, ()), ((), ()), r2, ()), (y1, ()))) else none) := by kernel_rfl
theorem shapeCheck_4_g1_J1_eq (n : Nat) (s0 : Int) (s9o : Nat) (s9n : Nat) (s10 : Int) (s11 : Int) (b0_0 : List Ins) (r2 : List Bool) (r3 : List Int) : shapeCheck_4_g1_J1 (n + 1) s0 s9o s9n s10 s11 b0_0 r2 r3 =
  shapeCheck_4_g1_L0 n s0 s9o s9n s10 (IntKind.i64.wrap (s11 + (1 : Int))) b0_0 r2 r3 := by kernel_rfl
noncomputable def shapeCheck_4_g1_sp : GSpec TT := ⟨[.val (.int .i64), .ptr 0 22 [.val (.list (.user 0))], .ptr 0 52 [.row 4 (.bool)]], [.blk 22 [.val (.list (.user 0))], .blk 52 [.own 2], .row 4 (.bool)], [.val (.int .i64)], fun x => shapeCheck_4_g1 BIG x.1 x.2.1.1 x.2.2.1.1⟩
theorem shapeCheck_4_g1_ok : GOk TT Try.prog 58 shapeCheck_4_g1_sp := gOk_of (C := shapeCheck_4_g1_C) (cuts := shapeCheck_4_g1_cuts) (by kernel_rfl) shapeCheck_4_g1_env Try.func58 (show Try.f58.body = some (bodyOf Try.f58) by kernel_rfl) (by kernel_rfl) (by kernel_rfl) (by kernel_rfl) fun x y h => ⟨BIG, h⟩
noncomputable def shape_first_g1_C : Ctx TT := ⟨tyOf, [(54, shapeCheck_1_g1_sp.toCall (noCall TT)), (56, shapeCheck_2_g1_sp.toCall (noCall TT)), (57, shapeCheck_3_g1_sp.toCall (noCall TT)), (58, shapeCheck_4_g1_sp.toCall (noCall TT))], 4, []⟩
theorem shape_first_g1_env : EnvOk TT Try.prog shape_first_g1_C.E := envG (gCall_ok shapeCheck_1_g1_ok (noCall_ok 54)) (envG (gCall_ok shapeCheck_2_g1_ok (noCall_ok 56)) (envG (gCall_ok shapeCheck_3_g1_ok (noCall_ok 57)) (envG (gCall_ok shapeCheck_4_g1_ok (noCall_ok 58)) (envNil))))
def shape_first_g1_cuts : List (Pos × Cut) := [([false, true, false, true], ⟨[0, 4, 9, 10, 11], [], true, []⟩), ([false, true, true, false, false, true, true, false, false, true, false, true], ⟨[0, 4, 6, 9, 10, 11, 15, 16], [], false, []⟩)]
noncomputable def shape_first_g1 (n : Nat) (x0 : Int) (x1 : List Ins) (x2 : List Bool) : Option (((((Unit) × (Unit × Unit)) × ((Unit) × (Unit × Unit)) × ((Unit) × (Unit × Unit)) × ((Unit) × (Unit × Unit × Unit)) × Unit) × (List Ins × Unit) × (Unit × Unit) × List Bool × Unit) × (Fault × Unit)) := topG TT Try.prog shape_first_g1_C shape_first_g1_cuts Try.f53 (bodyOf Try.f53) ⟨[], [], []⟩ [.val (.int .i64), .slb 1 4 68 [.fn 54 [] [.ptr 0 22 [.val (.list (.user 0))]], .fn 56 [] [.at_ 1 0], .fn 57 [] [.at_ 1 0], .fn 58 [] [.at_ 1 0, .ptr 0 52 [.row 4 (.bool)]]]] [.blk 68 [.fn 54 [] [.at_ 1 0], .fn 56 [] [.at_ 1 0], .fn 57 [] [.at_ 1 0], .fn 58 [] [.at_ 1 0, .at_ 2 0]], .blk 22 [.val (.list (.user 0))], .blk 52 [.own 3], .row 4 (.bool)] [.val (.user 1)] n (x0, (((), ((x1, ()), ())), ((), ((), ())), ((), ((), ())), ((), ((), (x2, ()), ())), ()), ())
noncomputable def shape_first_g1_L1 (n : Nat) (s0 : Int) (s15 : Int) (s16 : Int) (b1_0 : List Ins) (r3 : List Bool) (b4_0 : Int) (b4_1 : Int) : Option (((((Unit) × (Unit × Unit)) × ((Unit) × (Unit × Unit)) × ((Unit) × (Unit × Unit)) × ((Unit) × (Unit × Unit × Unit)) × Unit) × (List Ins × Unit) × (Unit × Unit) × List Bool × Unit) × (Fault × Unit)) := cutG TT Try.prog shape_first_g1_C shape_first_g1_cuts Try.f53 (bodyOf Try.f53) ⟨[], [], []⟩ [.blk 68 [.fn 54 [] [.at_ 1 0], .fn 56 [] [.at_ 1 0], .fn 57 [] [.at_ 1 0], .fn 58 [] [.at_ 1 0, .at_ 2 0]], .blk 22 [.val (.list (.user 0))], .blk 52 [.own 3], .row 4 (.bool)] [.val (.user 1)] n [false, true, true, false, false, true, true, false, false, true, false, true] ⟨[(0, .cell ⟨.int .i64, s0⟩), (4, .ptr 4 0), (6, .fn (.func 54) [] [.ptr 1 0]), (9, .sl 0 1 0 4), (10, .cell ⟨.int .i64, (4 : Int)⟩), (11, .cell ⟨.int .i64, (0 : Int)⟩), (15, .cell ⟨.int .i64, s15⟩), (16, .cell ⟨.int .i64, s16⟩)], [.blk 68 [.fn (.func 54) [] [.ptr 1 0], .fn (.func 56) [] [.ptr 1 0], .fn (.func 57) [] [.ptr 1 0], .fn (.func 58) [] [.ptr 1 0, .ptr 2 0]], .blk 22 [.cell ⟨.list (.user 0), b1_0⟩], .blk 52 [.own 3], .row 4 (.bool) r3, .blk 47 [.cell ⟨.int .i64, b4_0⟩, .cell ⟨.int .i64, b4_1⟩]]⟩
noncomputable def shape_first_g1_L1a (n : Nat) (s0 : Int) (s15 : Int) (s16 : Int) (b1_0 : List Ins) (r3 : List Bool) (b4_0 : Int) (b4_1 : Int) : Option (((((Unit) × (Unit × Unit)) × ((Unit) × (Unit × Unit)) × ((Unit) × (Unit × Unit)) × ((Unit) × (Unit × Unit × Unit)) × Unit) × (List Ins × Unit) × (Unit × Unit) × List Bool × Unit) × (Fault × Unit)) := cutG TT Try.prog shape_first_g1_C shape_first_g1_cuts Try.f53 (bodyOf Try.f53) ⟨[], [], []⟩ [.blk 68 [.fn 54 [] [.at_ 1 0], .fn 56 [] [.at_ 1 0], .fn 57 [] [.at_ 1 0], .fn 58 [] [.at_ 1 0, .at_ 2 0]], .blk 22 [.val (.list (.user 0))], .blk 52 [.own 3], .row 4 (.bool)] [.val (.user 1)] n [false, true, true, false, false, true, true, false, false, true, false, true] ⟨[(0, .cell ⟨.int .i64, s0⟩), (4, .ptr 4 0), (6, .fn (.func 56) [] [.ptr 1 0]), (9, .sl 0 1 0 4), (10, .cell ⟨.int .i64, (4 : Int)⟩), (11, .cell ⟨.int .i64, (1 : Int)⟩), (15, .cell ⟨.int .i64, s15⟩), (16, .cell ⟨.int .i64, s16⟩)], [.blk 68 [.fn (.func 54) [] [.ptr 1 0], .fn (.func 56) [] [.ptr 1 0], .fn (.func 57) [] [.ptr 1 0], .fn (.func 58) [] [.ptr 1 0, .ptr 2 0]], .blk 22 [.cell ⟨.list (.user 0), b1_0⟩], .blk 52 [.own 3], .row 4 (.bool) r3, .blk 47 [.cell ⟨.int .i64, b4_0⟩, .cell ⟨.int .i64, b4_1⟩]]⟩
noncomputable def shape_first_g1_L1b (n : Nat) (s0 : Int) (s15 : Int) (s16 : Int) (b1_0 : List Ins) (r3 : List Bool) (b4_0 : Int) (b4_1 : Int) : Option (((((Unit) × (Unit × Unit)) × ((Unit) × (Unit × Unit)) × ((Unit) × (Unit × Unit)) × ((Unit) × (Unit × Unit × Unit)) × Unit) × (List Ins × Unit) × (Unit × Unit) × List Bool × Unit) × (Fault × Unit)) := cutG TT Try.prog shape_first_g1_C shape_first_g1_cuts Try.f53 (bodyOf Try.f53) ⟨[], [], []⟩ [.blk 68 [.fn 54 [] [.at_ 1 0], .fn 56 [] [.at_ 1 0], .fn 57 [] [.at_ 1 0], .fn 58 [] [.at_ 1 0, .at_ 2 0]], .blk 22 [.val (.list (.user 0))], .blk 52 [.own 3], .row 4 (.bool)] [.val (.user 1)] n [false, true, true, false, false, true, true, false, false, true, false, true] ⟨[(0, .cell ⟨.int .i64, s0⟩), (4, .ptr 4 0), (6, .fn (.func 57) [] [.ptr 1 0]), (9, .sl 0 1 0 4), (10, .cell ⟨.int .i64, (4 : Int)⟩), (11, .cell ⟨.int .i64, (2 : Int)⟩), (15, .cell ⟨.int .i64, s15⟩), (16, .cell ⟨.int .i64, s16⟩)], [.blk 68 [.fn (.func 54) [] [.ptr 1 0], .fn (.func 56) [] [.ptr 1 0], .fn (.func 57) [] [.ptr 1 0], .fn (.func 58) [] [.ptr 1 0, .ptr 2 0]], .blk 22 [.cell ⟨.list (.user 0), b1_0⟩], .blk 52 [.own 3], .row 4 (.bool) r3, .blk 47 [.cell ⟨.int .i64, b4_0⟩, .cell ⟨.int .i64, b4_1⟩]]⟩
noncomputable def shape_first_g1_L1c (n : Nat) (s0 : Int) (s15 : Int) (s16 : Int) (b1_0 : List Ins) (r3 : List Bool) (b4_0 : Int) (b4_1 : Int) : Option (((((Unit) × (Unit × Unit)) × ((Unit) × (Unit × Unit)) × ((Unit) × (Unit × Unit)) × ((Unit) × (Unit × Unit × Unit)) × Unit) × (List Ins × Unit) × (Unit × Unit) × List Bool × Unit) × (Fault × Unit)) := cutG TT Try.prog shape_first_g1_C shape_first_g1_cuts Try.f53 (bodyOf Try.f53) ⟨[], [], []⟩ [.blk 68 [.fn 54 [] [.at_ 1 0], .fn 56 [] [.at_ 1 0], .fn 57 [] [.at_ 1 0], .fn 58 [] [.at_ 1 0, .at_ 2 0]], .blk 22 [.val (.list (.user 0))], .blk 52 [.own 3], .row 4 (.bool)] [.val (.user 1)] n [false, true, true, false, false, true, true, false, false, true, false, true] ⟨[(0, .cell ⟨.int .i64, s0⟩), (4, .ptr 4 0), (6, .fn (.func 58) [] [.ptr 1 0, .ptr 2 0]), (9, .sl 0 1 0 4), (10, .cell ⟨.int .i64, (4 : Int)⟩), (11, .cell ⟨.int .i64, (3 : Int)⟩), (15, .cell ⟨.int .i64, s15⟩), (16, .cell ⟨.int .i64, s16⟩)], [.blk 68 [.fn (.func 54) [] [.ptr 1 0], .fn (.func 56) [] [.ptr 1 0], .fn (.func 57) [] [.ptr 1 0], .fn (.func 58) [] [.ptr 1 0, .ptr 2 0]], .blk 22 [.cell ⟨.list (.user 0), b1_0⟩], .blk 52 [.own 3], .row 4 (.bool) r3, .blk 47 [.cell ⟨.int .i64, b4_0⟩, .cell ⟨.int .i64, b4_1⟩]]⟩
theorem shape_first_g1_eq (n : Nat) (x0 : Int) (x1 : List Ins) (x2 : List Bool) : shape_first_g1 (n + 1) x0 x1 x2 =
  shape_first_g1_L1 n x0 x0 (0 : Int) x1 x2 (0 : Int) (0 : Int) := by kernel_rfl
theorem shape_first_g1_L1_eq (n : Nat) (s0 : Int) (s15 : Int) (s16 : Int) (b1_0 : List Ins) (r3 : List Bool) (b4_0 : Int) (b4_1 : Int) : shape_first_g1_L1 (n + 2) s0 s15 s16 b1_0 r3 b4_0 b4_1 =
  forkB (decide (s16 < s15))
  (obind (shapeCheck_1_g1 BIG s16 b1_0) fun y1 =>
   forkB (y1.2.1 != (0 : Int))
   (some (((((), ((), ())), ((), ((), ())), ((), ((), ())), ((), ((), (), ())), ()), (y1.1.1.1, ()), ((), ()), r3, ()), ((⟨y1.2.1, s16⟩ : Fault), ())))
   (shape_first_g1_L1 (n + 1) s0 s15 (IntKind.i64.wrap (s16 + (1 : Int))) y1.1.1.1 r3 b4_0 b4_1))
  (shape_first_g1_L1a n s0 s0 (0 : Int) b1_0 r3 b4_0 b4_1) := by kernel_rfl
theorem shape_first_g1_L1a_eq (n : Nat) (s0 : Int) (s15 : Int) (s16 : Int) (b1_0 : List Ins) (r3 : List Bool) (b4_0 : Int) (b4_1 : Int) : shape_first_g1_L1a (n + 2) s0 s15 s16 b1_0 r3 b4_0 b4_1 =
  forkB (decide (s16 < s15))
  (obind (shapeCheck_2_g1 BIG s16 b1_0) fun y1 =>
   forkB (y1.2.1 != (0 : Int))
   (some (((((), ((), ())), ((), ((), ())), ((), ((), ())), ((), ((), (), ())), ()), (y1.1.1.1, ()), ((), ()), r3, ()), ((⟨y1.2.1, s16⟩ : Fault), ())))
   (shape_first_g1_L1a (n + 1) s0 s15 (IntKind.i64.wrap (s16 + (1 : Int))) y1.1.1.1 r3 b4_0 b4_1))
  (shape_first_g1_L1b n s0 s0 (0 : Int) b1_0 r3 b4_0 b4_1) := by kernel_rfl
theorem shape_first_g1_L1b_eq (n : Nat) (s0 : Int) (s15 : Int) (s16 : Int) (b1_0 : List Ins) (r3 : List Bool) (b4_0 : Int) (b4_1 : Int) : shape_first_g1_L1b (n + 2) s0 s15 s16 b1_0 r3 b4_0 b4_1 =
  forkB (decide (s16 < s15))
  (obind (shapeCheck_3_g1 BIG s16 b1_0) fun y1 =>
   forkB (y1.2.1 != (0 : Int))
   (some (((((), ((), ())), ((), ((), ())), ((), ((), ())), ((), ((), (), ())), ()), (y1.1.1.1, ()), ((), ()), r3, ()), ((⟨y1.2.1, s16⟩ : Fault), ())))
   (shape_first_g1_L1b (n + 1) s0 s15 (IntKind.i64.wrap (s16 + (1 : Int))) y1.1.1.1 r3 b4_0 b4_1))
  (shape_first_g1_L1c n s0 s0 (0 : Int) b1_0 r3 b4_0 b4_1) := by kernel_rfl
theorem shape_first_g1_L1c_eq (n : Nat) (s0 : Int) (s15 : Int) (s16 : Int) (b1_0 : List Ins) (r3 : List Bool) (b4_0 : Int) (b4_1 : Int) : shape_first_g1_L1c (n + 2) s0 s15 s16 b1_0 r3 b4_0 b4_1 =
  forkB (decide (s16 < s15))
  (obind (shapeCheck_4_g1 BIG s16 b1_0 r3) fun y1 =>
   forkB (y1.2.1 != (0 : Int))
   (some (((((), ((), ())), ((), ((), ())), ((), ((), ())), ((), ((), (), ())), ()), (y1.1.1.1, ()), ((), ()), y1.1.2.2.1, ()), ((⟨y1.2.1, s16⟩ : Fault), ())))
   (shape_first_g1_L1c (n + 1) s0 s15 (IntKind.i64.wrap (s16 + (1 : Int))) y1.1.1.1 y1.1.2.2.1 b4_0 b4_1))
  (some (((((), ((), ())), ((), ((), ())), ((), ((), ())), ((), ((), (), ())), ()), (b1_0, ()), ((), ()), r3, ()), ((⟨(0 : Int), (0 : Int)⟩ : Fault), ()))) := by kernel_rfl
noncomputable def shape_first_g1_sp : GSpec TT := ⟨[.val (.int .i64), .slb 1 4 68 [.fn 54 [] [.ptr 0 22 [.val (.list (.user 0))]], .fn 56 [] [.at_ 1 0], .fn 57 [] [.at_ 1 0], .fn 58 [] [.at_ 1 0, .ptr 0 52 [.row 4 (.bool)]]]], [.blk 68 [.fn 54 [] [.at_ 1 0], .fn 56 [] [.at_ 1 0], .fn 57 [] [.at_ 1 0], .fn 58 [] [.at_ 1 0, .at_ 2 0]], .blk 22 [.val (.list (.user 0))], .blk 52 [.own 3], .row 4 (.bool)], [.val (.user 1)], fun x => shape_first_g1 BIG x.1 x.2.1.1.2.1.1 x.2.1.2.2.2.1.2.2.1.1⟩
theorem shape_first_g1_ok : GOk TT Try.prog 53 shape_first_g1_sp := gOk_of (C := shape_first_g1_C) (cuts := shape_first_g1_cuts) (by kernel_rfl) shape_first_g1_env Try.func53 (show Try.f53.body = some (bodyOf Try.f53) by kernel_rfl) (by kernel_rfl) (by kernel_rfl) (by kernel_rfl) fun x y h => ⟨BIG, h⟩
noncomputable def shapeCheck_C : Ctx TT := ⟨tyOf, [(53, shape_first_g1_sp.toCall (noCall TT))], 0, []⟩
theorem shapeCheck_env : EnvOk TT Try.prog shapeCheck_C.E := envG (gCall_ok shape_first_g1_ok (noCall_ok 53)) (envNil)
def shapeCheck_cuts : List (Pos × Cut) := []
noncomputable def shapeCheck (n : Nat) (x0 : List Ins) : Option (Fault) := topF TT Try.prog shapeCheck_C shapeCheck_cuts Try.f32 (bodyOf Try.f32) [.val (.list (.user 0))] [.val (.user 1)] n x0
theorem shapeCheck_eq (n : Nat) (x0 : List Ins) : shapeCheck n x0 =
  forkB (((x0.length : Nat) : Int) == (0 : Int))
  (some (⟨(6 : Int), (0 : Int)⟩ : Fault))
  (forkB (decide (((x0.length : Nat) : Int) > (4096 : Int)))
   (some (⟨(3 : Int), (0 : Int)⟩ : Fault))
   (if 0 ≤ ((x0.length : Nat) : Int) ∧ ((x0.length : Nat) : Int) ≤ ((x0.length : Nat) : Int) ∧ 1 * (((x0.length : Nat) : Int).toNat) ≤ 281474976710656 ∧ ((x0.length : Nat) : Int) ≤ 9223372036854775807 then (if 0 ≤ (0 : Int) ∧ (0 : Int) < (((List.replicate (((x0.length : Nat) : Int).toNat) false).length : Nat) : Int) then (obind (shape_first_g1 BIG ((x0.length : Nat) : Int) x0 ((List.replicate (((x0.length : Nat) : Int).toNat) false).set 0 true)) fun y1 =>
    some y1.2.1) else none) else none)) := by kernel_rfl
noncomputable def shapeCheck_sp : FnSpec TT := ⟨[.val (.list (.user 0))], [.val (.user 1)], fun x => shapeCheck BIG x⟩
theorem shapeCheck_ok : FnOk TT Try.prog 32 shapeCheck_sp := fnOk_of (C := shapeCheck_C) (by kernel_rfl) shapeCheck_env Try.func32 (show Try.f32.body = some (bodyOf Try.f32) by kernel_rfl) (by kernel_rfl) (by kernel_rfl) (cuts := shapeCheck_cuts) fun x y h => ⟨BIG, h⟩
end Go.X
