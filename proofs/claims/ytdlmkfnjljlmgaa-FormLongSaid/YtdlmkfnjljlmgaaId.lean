/- The laws of instructions. -/
import Derived.Test.YtdlmkfnjljlmgaaIc
namespace Go.X
open Go.RowKit Go.V Go.Proofs
noncomputable def insNext_g2_C : Ctx TT := ⟨tyOf, [(13, insRight_sp.toCall), (15, insJumps_sp.toCall), (44, slicesSort_g1_sp.toCall (slicesSort_sp.toCall)), (45, slicesCompact_g2_sp.toCall (slicesCompact_g1_sp.toCall (noCall TT)))], 1, []⟩
theorem insNext_g2_env : EnvOk TT Try.prog insNext_g2_C.E := envG (fnCall_ok insRight_ok) (envG (fnCall_ok insJumps_ok) (envG (gCall_ok slicesSort_g1_ok (fnCall_ok slicesSort_ok)) (envG (gCall_ok slicesCompact_g2_ok (gCall_ok slicesCompact_g1_ok (noCall_ok 45))) (envNil))))
def insNext_g2_cuts : List (Pos × Cut) := [([false, true], ⟨[0, 1, 29], [], false, []⟩), ([true, true, true], ⟨[0, 1, 5], [], false, []⟩)]
noncomputable def insNext_g2 (n : Nat) (x0 : List Ins) (x1 : Int) : Option ((List Ins × Unit) × ((List Int × Nat × Nat) × Unit)) := topG TT Try.prog insNext_g2_C insNext_g2_cuts Try.f18 (bodyOf Try.f18) ⟨[(0, 3, .int .i64, false)], [], []⟩ [.row 27 (.user 0), .val (.int .i64)] [.row 27 (.user 0)] [.slr 3 (.int .i64)] n (x0, x1, ())
noncomputable def insNext_g2_J0 (n : Nat) (s1 : Int) (s29 : Bool) (r0 : List Ins) : Option ((List Ins × Unit) × ((List Int × Nat × Nat) × Unit)) := cutG TT Try.prog insNext_g2_C insNext_g2_cuts Try.f18 (bodyOf Try.f18) ⟨[(0, 3, .int .i64, false)], [], []⟩ [.row 27 (.user 0)] [.slr 3 (.int .i64)] n [false, true] ⟨[(0, .own 0), (1, .cell ⟨.int .i64, s1⟩), (29, .cell ⟨.bool, s29⟩)], [.row 27 (.user 0) r0]⟩
noncomputable def insNext_g2_J1 (n : Nat) (s1 : Int) (r0 : List Ins) (r1 : List Int) : Option ((List Ins × Unit) × ((List Int × Nat × Nat) × Unit)) := cutG TT Try.prog insNext_g2_C insNext_g2_cuts Try.f18 (bodyOf Try.f18) ⟨[(0, 3, .int .i64, false)], [], []⟩ [.row 27 (.user 0)] [.slr 3 (.int .i64)] n [true, true, true] ⟨[(0, .own 0), (1, .cell ⟨.int .i64, s1⟩), (5, .own 1)], [.row 27 (.user 0) r0, .row 3 (.int .i64) r1]⟩
theorem insNext_g2_eq (n : Nat) (x0 : List Ins) (x1 : Int) : insNext_g2 n x0 x1 =
  forkB (decide (x1 < (0 : Int)))
  (insNext_g2_J0 n x1 true x0)
  (forkB (decide (x1 ≥ ((x0.length : Nat) : Int)))
   (insNext_g2_J0 n x1 true x0)
   (if 0 ≤ x1 ∧ x1 < ((x0.length : Nat) : Int) then (obind (insRight BIG (x0.getD x1.toNat dIns)) fun y1 =>
    forkB (!y1)
    (insNext_g2_J0 n x1 true x0)
    (if 0 ≤ x1 ∧ x1 < ((x0.length : Nat) : Int) then (insNext_g2_J0 n x1 (((x0.getD x1.toNat dIns).Op) == (28 : Int)) x0) else none)) else none)) := by kernel_rfl
theorem insNext_g2_J0_eq (n : Nat) (s1 : Int) (s29 : Bool) (r0 : List Ins) : insNext_g2_J0 (n + 1) s1 s29 r0 =
  forkB s29
  (some ((r0, ()), ((([] : List Int), 0, 0), ())))
  (if 0 ≤ s1 ∧ s1 < ((r0.length : Nat) : Int) then (obind (insJumps BIG (r0.getD s1.toNat dIns)) fun y1 =>
   forkB y1
   (if 0 ≤ s1 ∧ s1 < ((r0.length : Nat) : Int) then (insNext_g2_J1 n s1 r0 ([IntKind.i64.wrap (s1 + (1 : Int)), IntKind.i64.wrap ((IntKind.i64.wrap (s1 + (1 : Int))) + ((r0.getD s1.toNat dIns).Off))] : List Int)) else none)
   (insNext_g2_J1 n s1 r0 ([IntKind.i64.wrap (s1 + (1 : Int))] : List Int))) else none) := by kernel_rfl
theorem insNext_g2_J1_eq (n : Nat) (s1 : Int) (r0 : List Ins) (r1 : List Int) : insNext_g2_J1 (n + 1) s1 r0 r1 =
  if 0 ≤ s1 ∧ s1 < ((r0.length : Nat) : Int) then (forkB (((r0.getD s1.toNat dIns).Op) == (16 : Int))
  (if 0 ≤ (1 : Int) ∧ (1 : Int) ≤ ((r1.length : Nat) : Int) ∧ ((r1.length : Nat) : Int) ≤ ((r1.length : Nat) : Int) then (obind (slicesSort_g1 BIG r1 1 ((((r1.length : Nat) : Int).toNat) - 1)) fun y1 =>
   obind (slicesCompact_g1 BIG y1.1.1 1 ((((r1.length : Nat) : Int).toNat) - 1)) fun y2 =>
   some ((r0, ()), ((y2.1.1, y2.2.1.1, y2.2.1.2), ()))) else none)
  (obind (slicesSort BIG r1) fun y3 =>
   obind (slicesCompact_g2 BIG y3.1) fun y4 =>
   some ((r0, ()), ((y4.1.1, y4.2.1.1, y4.2.1.2), ())))) else none := by kernel_rfl
noncomputable def insNext_g2_sp : GSpec TT := ⟨[.row 27 (.user 0), .val (.int .i64)], [.row 27 (.user 0)], [.slr 3 (.int .i64)], fun x => insNext_g2 BIG x.1 x.2.1⟩
theorem insNext_g2_ok : GOk TT Try.prog 18 insNext_g2_sp := gOk_of (C := insNext_g2_C) (cuts := insNext_g2_cuts) (by kernel_rfl) insNext_g2_env Try.func18 (show Try.f18.body = some (bodyOf Try.f18) by kernel_rfl) (by kernel_rfl) (by kernel_rfl) (by kernel_rfl) fun x y h => ⟨BIG, h⟩
noncomputable def law06_awake_C : Ctx TT := ⟨tyOf, [(23, insPut_sp.toCall), (25, insGet_sp.toCall), (18, insNext_g2_sp.toCall (insNext_g1_sp.toCall (noCall TT))), (27, kitSameBytes_sp.toCall), (28, kitSameIns_sp.toCall), (13, insRight_sp.toCall)], 0, []⟩
theorem law06_awake_env : EnvOk TT Try.prog law06_awake_C.E := envG (fnCall_ok insPut_ok) (envG (fnCall_ok insGet_ok) (envG (gCall_ok insNext_g2_ok (gCall_ok insNext_g1_ok (noCall_ok 18))) (envG (fnCall_ok kitSameBytes_ok) (envG (fnCall_ok kitSameIns_ok) (envG (fnCall_ok insRight_ok) (envNil))))))
def law06_awake_cuts : List (Pos × Cut) := []
noncomputable def law06_awake (n : Nat)  : Option (Bool) := topF TT Try.prog law06_awake_C law06_awake_cuts Try.f12 (bodyOf Try.f12) [] [.val (.bool)] n ()
theorem law06_awake_eq (n : Nat)  : law06_awake n  =
  obind (insPut BIG ([(⟨(12 : Int), false, (0 : Int), (0 : Int), true, (0 : Int), (1 : Int), (0 : Int)⟩ : Ins), (⟨(14 : Int), false, (3 : Int), (1 : Int), false, (12 : Int), (0 : Int), (2 : Int)⟩ : Ins), (⟨(28 : Int), false, (0 : Int), (0 : Int), false, (0 : Int), (0 : Int), (0 : Int)⟩ : Ins)] : List Ins)) fun y1 =>
  obind (insGet BIG y1.1) fun y2 =>
  obind (insNext_g2 BIG ([(⟨(12 : Int), false, (0 : Int), (0 : Int), true, (0 : Int), (1 : Int), (0 : Int)⟩ : Ins), (⟨(14 : Int), false, (3 : Int), (1 : Int), false, (12 : Int), (0 : Int), (2 : Int)⟩ : Ins), (⟨(28 : Int), false, (0 : Int), (0 : Int), false, (0 : Int), (0 : Int), (0 : Int)⟩ : Ins)] : List Ins) (1 : Int)) fun y3 =>
  forkB (y1.2 == (0 : Int))
  (forkB (y2.2 == (0 : Int))
   (obind (kitSameBytes BIG y1.1 ([(44 : Int), (0 : Int), (0 : Int), (0 : Int), (0 : Int), (0 : Int), (0 : Int), (1 : Int), (78 : Int), (49 : Int), (0 : Int), (12 : Int), (0 : Int), (0 : Int), (0 : Int), (0 : Int), (28 : Int), (0 : Int), (0 : Int), (0 : Int), (0 : Int), (0 : Int), (0 : Int), (0 : Int)] : List Int)) fun y4 =>
    forkB y4
    (obind (kitSameIns BIG y3.1.1 y2.1) fun y5 =>
     forkB y5
     (forkB (((y3.2.1.2.2 : Nat) : Int) == (1 : Int))
      (if 0 ≤ (0 : Int) ∧ (0 : Int) < ((y3.2.1.2.2 : Nat) : Int) then (if y3.2.1.2.1 + 0 < y3.2.1.1.length then (forkB ((y3.2.1.1.getD (y3.2.1.2.1 + 0) (0 : Int)) == (2 : Int))
       (if 0 ≤ (0 : Int) ∧ (0 : Int) < ((y3.1.1.length : Nat) : Int) then (obind (insRight BIG (y3.1.1.getD 0 dIns)) fun y6 =>
        some y6) else none)
       (some false)) else none) else none)
      (some false))
     (some false))
    (some false))
   (some false))
  (some false) := by kernel_rfl
noncomputable def law06_awake_sp : FnSpec TT := ⟨[], [.val (.bool)], fun _ => law06_awake BIG ⟩
theorem law06_awake_ok : FnOk TT Try.prog 12 law06_awake_sp := fnOk_of (C := law06_awake_C) (by kernel_rfl) law06_awake_env Try.func12 (show Try.f12.body = some (bodyOf Try.f12) by kernel_rfl) (by kernel_rfl) (by kernel_rfl) (cuts := law06_awake_cuts) fun x y h => ⟨BIG, h⟩
noncomputable def kit_mark_C : Ctx TT := ⟨tyOf, [], 0, []⟩
theorem kit_mark_env : EnvOk TT Try.prog kit_mark_C.E := envNil
def kit_mark_cuts : List (Pos × Cut) := []
noncomputable def kit_mark (n : Nat) (x0 : Int) (x1 : Int) : Option (Int) := topF TT Try.prog kit_mark_C kit_mark_cuts Try.f63 (bodyOf Try.f63) [.val (.int .i64), .val (.int .i64)] [.val (.int .i64)] n (x0, x1)
theorem kit_mark_eq (n : Nat) (x0 : Int) (x1 : Int) : kit_mark n x0 x1 =
  some (IntKind.i64.wrap ((IntKind.i64.wrap ((1000003 : Int) * (IntKind.i64.wrap (x0 + (7 : Int))))) + x1)) := by kernel_rfl
noncomputable def kit_mark_sp : FnSpec TT := ⟨[.val (.int .i64), .val (.int .i64)], [.val (.int .i64)], fun x => kit_mark BIG x.1 x.2⟩
theorem kit_mark_ok : FnOk TT Try.prog 63 kit_mark_sp := fnOk_of (C := kit_mark_C) (by kernel_rfl) kit_mark_env Try.func63 (show Try.f63.body = some (bodyOf Try.f63) by kernel_rfl) (by kernel_rfl) (by kernel_rfl) (cuts := kit_mark_cuts) fun x y h => ⟨BIG, h⟩
noncomputable def kit_markIns_C : Ctx TT := ⟨tyOf, [(63, kit_mark_sp.toCall)], 0, []⟩
theorem kit_markIns_env : EnvOk TT Try.prog kit_markIns_C.E := envG (fnCall_ok kit_mark_ok) (envNil)
def kit_markIns_cuts : List (Pos × Cut) := []
noncomputable def kit_markIns (n : Nat) (x0 : Int) (x1 : Int) : Option (Ins) := topF TT Try.prog kit_markIns_C kit_markIns_cuts Try.f46 (bodyOf Try.f46) [.val (.int .i64), .val (.int .i64)] [.val (.user 0)] n (x0, x1)
theorem kit_markIns_eq (n : Nat) (x0 : Int) (x1 : Int) : kit_markIns n x0 x1 =
  obind (kit_mark BIG x0 x1) fun y1 =>
  some (⟨(0 : Int), false, (0 : Int), (0 : Int), false, y1, (0 : Int), (0 : Int)⟩ : Ins) := by kernel_rfl
noncomputable def kit_markIns_sp : FnSpec TT := ⟨[.val (.int .i64), .val (.int .i64)], [.val (.user 0)], fun x => kit_markIns BIG x.1 x.2⟩
theorem kit_markIns_ok : FnOk TT Try.prog 46 kit_markIns_sp := fnOk_of (C := kit_markIns_C) (by kernel_rfl) kit_markIns_env Try.func46 (show Try.f46.body = some (bodyOf Try.f46) by kernel_rfl) (by kernel_rfl) (by kernel_rfl) (cuts := kit_markIns_cuts) fun x y h => ⟨BIG, h⟩
noncomputable def kitLentIns_g1_C : Ctx TT := ⟨tyOf, [(46, kit_markIns_sp.toCall)], 0, []⟩
theorem kitLentIns_g1_env : EnvOk TT Try.prog kitLentIns_g1_C.E := envG (fnCall_ok kit_markIns_ok) (envNil)
def kitLentIns_g1_cuts : List (Pos × Cut) := [([false, true, false, true, true, true], ⟨[0, 3, 4], [], false, []⟩)]
noncomputable def kitLentIns_g1 (n : Nat) (x0 : List Ins) : Option ((Unit) × ((List Ins × Nat × Nat) × Unit)) := topG TT Try.prog kitLentIns_g1_C kitLentIns_g1_cuts Try.f20 (bodyOf Try.f20) ⟨[], [], []⟩ [.val (.list (.user 0))] [] [.slr 27 (.user 0)] n (x0, ())
noncomputable def kitLentIns_g1_L0 (n : Nat) (s0 : List Ins) (s4 : Int) (r0 : List Ins) : Option ((Unit) × ((List Ins × Nat × Nat) × Unit)) := cutG TT Try.prog kitLentIns_g1_C kitLentIns_g1_cuts Try.f20 (bodyOf Try.f20) ⟨[], [], []⟩ [] [.slr 27 (.user 0)] n [false, true, false, true, true, true] ⟨[(0, .cell ⟨.list (.user 0), s0⟩), (3, .own 0), (4, .cell ⟨.int .i64, s4⟩)], [.row 27 (.user 0) r0]⟩
theorem kitLentIns_g1_eq (n : Nat) (x0 : List Ins) : kitLentIns_g1 n x0 =
  if 0 ≤ (0 : Int) ∧ (0 : Int) ≤ IntKind.i64.wrap (((x0.length : Nat) : Int) + (12 : Int)) ∧ 56 * ((IntKind.i64.wrap (((x0.length : Nat) : Int) + (12 : Int))).toNat) ≤ 281474976710656 ∧ IntKind.i64.wrap (((x0.length : Nat) : Int) + (12 : Int)) ≤ 9223372036854775807 then (if ((List.replicate 0 (⟨(0 : Int), false, (0 : Int), (0 : Int), false, (0 : Int), (0 : Int), (0 : Int)⟩ : Ins)).length + x0.length) * 56 ≤ 140737488355328 then (kitLentIns_g1_L0 n x0 (0 : Int) ((List.replicate 0 (⟨(0 : Int), false, (0 : Int), (0 : Int), false, (0 : Int), (0 : Int), (0 : Int)⟩ : Ins)) ++ x0)) else none) else none := by kernel_rfl
theorem kitLentIns_g1_L0_eq (n : Nat) (s0 : List Ins) (s4 : Int) (r0 : List Ins) : kitLentIns_g1_L0 (n + 1) s0 s4 r0 =
  forkB (decide (s4 < (12 : Int)))
  (obind (kit_markIns BIG (1 : Int) s4) fun y1 =>
   if (r0.length + 1) * 56 ≤ 140737488355328 then (kitLentIns_g1_L0 n s0 (IntKind.i64.wrap (s4 + (1 : Int))) (r0 ++ ([y1] : List Ins))) else none)
  (if 0 ≤ (0 : Int) ∧ (0 : Int) ≤ ((s0.length : Nat) : Int) ∧ ((s0.length : Nat) : Int) ≤ ((r0.length : Nat) : Int) then (some ((), ((r0, 0, (((s0.length : Nat) : Int).toNat) - 0), ()))) else none) := by kernel_rfl
noncomputable def kitLentIns_g1_sp : GSpec TT := ⟨[.val (.list (.user 0))], [], [.slr 27 (.user 0)], fun x => kitLentIns_g1 BIG x.1⟩
theorem kitLentIns_g1_ok : GOk TT Try.prog 20 kitLentIns_g1_sp := gOk_of (C := kitLentIns_g1_C) (cuts := kitLentIns_g1_cuts) (by kernel_rfl) kitLentIns_g1_env Try.func20 (show Try.f20.body = some (bodyOf Try.f20) by kernel_rfl) (by kernel_rfl) (by kernel_rfl) (by kernel_rfl) fun x y h => ⟨BIG, h⟩
noncomputable def insNext_g3_C : Ctx TT := ⟨tyOf, [(13, insRight_sp.toCall), (15, insJumps_sp.toCall), (44, slicesSort_g1_sp.toCall (slicesSort_sp.toCall)), (45, slicesCompact_g2_sp.toCall (slicesCompact_g1_sp.toCall (noCall TT)))], 1, []⟩
theorem insNext_g3_env : EnvOk TT Try.prog insNext_g3_C.E := envG (fnCall_ok insRight_ok) (envG (fnCall_ok insJumps_ok) (envG (gCall_ok slicesSort_g1_ok (fnCall_ok slicesSort_ok)) (envG (gCall_ok slicesCompact_g2_ok (gCall_ok slicesCompact_g1_ok (noCall_ok 45))) (envNil))))
def insNext_g3_cuts : List (Pos × Cut) := [([false, true], ⟨[0, 1, 29], [], false, []⟩), ([true, true, true], ⟨[0, 1, 5], [], false, []⟩)]
noncomputable def insNext_g3 (n : Nat) (x0 : List Ins) (x1 : Nat) (x2 : Nat) (x3 : Int) : Option ((List Ins × Unit) × ((List Int × Nat × Nat) × Unit)) := topG TT Try.prog insNext_g3_C insNext_g3_cuts Try.f18 (bodyOf Try.f18) ⟨[(0, 3, .int .i64, false)], [], []⟩ [.slr 27 (.user 0), .val (.int .i64)] [.row 27 (.user 0)] [.slr 3 (.int .i64)] n ((x0, x1, x2), x3, ())
noncomputable def insNext_g3_J0 (n : Nat) (s0o : Nat) (s0n : Nat) (s1 : Int) (s29 : Bool) (r0 : List Ins) : Option ((List Ins × Unit) × ((List Int × Nat × Nat) × Unit)) := cutG TT Try.prog insNext_g3_C insNext_g3_cuts Try.f18 (bodyOf Try.f18) ⟨[(0, 3, .int .i64, false)], [], []⟩ [.row 27 (.user 0)] [.slr 3 (.int .i64)] n [false, true] ⟨[(0, .sl 0 8 s0o s0n), (1, .cell ⟨.int .i64, s1⟩), (29, .cell ⟨.bool, s29⟩)], [.row 27 (.user 0) r0]⟩
noncomputable def insNext_g3_J1 (n : Nat) (s0o : Nat) (s0n : Nat) (s1 : Int) (r0 : List Ins) (r1 : List Int) : Option ((List Ins × Unit) × ((List Int × Nat × Nat) × Unit)) := cutG TT Try.prog insNext_g3_C insNext_g3_cuts Try.f18 (bodyOf Try.f18) ⟨[(0, 3, .int .i64, false)], [], []⟩ [.row 27 (.user 0)] [.slr 3 (.int .i64)] n [true, true, true] ⟨[(0, .sl 0 8 s0o s0n), (1, .cell ⟨.int .i64, s1⟩), (5, .own 1)], [.row 27 (.user 0) r0, .row 3 (.int .i64) r1]⟩
theorem insNext_g3_eq (n : Nat) (x0 : List Ins) (x1 : Nat) (x2 : Nat) (x3 : Int) : insNext_g3 n x0 x1 x2 x3 =
  forkB (decide (x3 < (0 : Int)))
  (insNext_g3_J0 n x1 x2 x3 true x0)
  (forkB (decide (x3 ≥ ((x2 : Nat) : Int)))
   (insNext_g3_J0 n x1 x2 x3 true x0)
   (if 0 ≤ x3 ∧ x3 < ((x2 : Nat) : Int) then (if x1 + x3.toNat < x0.length then (obind (insRight BIG (x0.getD (x1 + x3.toNat) dIns)) fun y1 =>
    forkB (!y1)
    (insNext_g3_J0 n x1 x2 x3 true x0)
    (if 0 ≤ x3 ∧ x3 < ((x2 : Nat) : Int) then (if x1 + x3.toNat < x0.length then (insNext_g3_J0 n x1 x2 x3 (((x0.getD (x1 + x3.toNat) dIns).Op) == (28 : Int)) x0) else none) else none)) else none) else none)) := by kernel_rfl
theorem insNext_g3_J0_eq (n : Nat) (s0o : Nat) (s0n : Nat) (s1 : Int) (s29 : Bool) (r0 : List Ins) : insNext_g3_J0 (n + 1) s0o s0n s1 s29 r0 =
  forkB s29
  (some ((r0, ()), ((([] : List Int), 0, 0), ())))
  (if 0 ≤ s1 ∧ s1 < ((s0n : Nat) : Int) then (if s0o + s1.toNat < r0.length then (obind (insJumps BIG (r0.getD (s0o + s1.toNat) dIns)) fun y1 =>
   forkB y1
   (if 0 ≤ s1 ∧ s1 < ((s0n : Nat) : Int) then (if s0o + s1.toNat < r0.length then (insNext_g3_J1 n s0o s0n s1 r0 ([IntKind.i64.wrap (s1 + (1 : Int)), IntKind.i64.wrap ((IntKind.i64.wrap (s1 + (1 : Int))) + ((r0.getD (s0o + s1.toNat) dIns).Off))] : List Int)) else none) else none)
   (insNext_g3_J1 n s0o s0n s1 r0 ([IntKind.i64.wrap (s1 + (1 : Int))] : List Int))) else none) else none) := by kernel_rfl
theorem insNext_g3_J1_eq (n : Nat) (s0o : Nat) (s0n : Nat) (s1 : Int) (r0 : List Ins) (r1 : List Int) : insNext_g3_J1 (n + 1) s0o s0n s1 r0 r1 =
  if 0 ≤ s1 ∧ s1 < ((s0n : Nat) : Int) then (if s0o + s1.toNat < r0.length then (forkB (((r0.getD (s0o + s1.toNat) dIns).Op) == (16 : Int))
  (if 0 ≤ (1 : Int) ∧ (1 : Int) ≤ ((r1.length : Nat) : Int) ∧ ((r1.length : Nat) : Int) ≤ ((r1.length : Nat) : Int) then (obind (slicesSort_g1 BIG r1 1 ((((r1.length : Nat) : Int).toNat) - 1)) fun y1 =>
   obind (slicesCompact_g1 BIG y1.1.1 1 ((((r1.length : Nat) : Int).toNat) - 1)) fun y2 =>
   some ((r0, ()), ((y2.1.1, y2.2.1.1, y2.2.1.2), ()))) else none)
  (obind (slicesSort BIG r1) fun y3 =>
   obind (slicesCompact_g2 BIG y3.1) fun y4 =>
   some ((r0, ()), ((y4.1.1, y4.2.1.1, y4.2.1.2), ())))) else none) else none := by kernel_rfl
noncomputable def insNext_g3_sp : GSpec TT := ⟨[.slr 27 (.user 0), .val (.int .i64)], [.row 27 (.user 0)], [.slr 3 (.int .i64)], fun x => insNext_g3 BIG x.1.1 x.1.2.1 x.1.2.2 x.2.1⟩
theorem insNext_g3_ok : GOk TT Try.prog 18 insNext_g3_sp := gOk_of (C := insNext_g3_C) (cuts := insNext_g3_cuts) (by kernel_rfl) insNext_g3_env Try.func18 (show Try.f18.body = some (bodyOf Try.f18) by kernel_rfl) (by kernel_rfl) (by kernel_rfl) (by kernel_rfl) fun x y h => ⟨BIG, h⟩
noncomputable def kitKeptIns_g1_C : Ctx TT := ⟨tyOf, [(46, kit_markIns_sp.toCall)], 1, []⟩
theorem kitKeptIns_g1_env : EnvOk TT Try.prog kitKeptIns_g1_C.E := envG (fnCall_ok kit_markIns_ok) (envNil)
def kitKeptIns_g1_cuts : List (Pos × Cut) := [([false, true, false, true, true, true], ⟨[1, 5, 6], [], false, []⟩), ([false, false, true, false, false, true, false, true, true, true], ⟨[1, 5, 6, 57], [], false, []⟩)]
noncomputable def kitKeptIns_g1 (n : Nat) (x0 : List Ins) (x1 : Nat) (x2 : Nat) (x3 : List Ins) : Option ((List Ins × Unit) × (Bool × Unit)) := topG TT Try.prog kitKeptIns_g1_C kitKeptIns_g1_cuts Try.f21 (bodyOf Try.f21) ⟨[], [], []⟩ [.slr 27 (.user 0), .val (.list (.user 0))] [.row 27 (.user 0)] [.val (.bool)] n ((x0, x1, x2), x3, ())
noncomputable def kitKeptIns_g1_L0 (n : Nat) (s1 : List Ins) (s5o : Nat) (s5n : Nat) (s6 : Int) (r0 : List Ins) : Option ((List Ins × Unit) × (Bool × Unit)) := cutG TT Try.prog kitKeptIns_g1_C kitKeptIns_g1_cuts Try.f21 (bodyOf Try.f21) ⟨[], [], []⟩ [.row 27 (.user 0)] [.val (.bool)] n [false, true, false, true, true, true] ⟨[(1, .cell ⟨.list (.user 0), s1⟩), (5, .sl 0 8 s5o s5n), (6, .cell ⟨.int .i64, s6⟩)], [.row 27 (.user 0) r0]⟩
noncomputable def kitKeptIns_g1_J1 (n : Nat) (s1 : List Ins) (s5o : Nat) (s5n : Nat) (s6 : Int) (s57 : Bool) (r0 : List Ins) : Option ((List Ins × Unit) × (Bool × Unit)) := cutG TT Try.prog kitKeptIns_g1_C kitKeptIns_g1_cuts Try.f21 (bodyOf Try.f21) ⟨[], [], []⟩ [.row 27 (.user 0)] [.val (.bool)] n [false, false, true, false, false, true, false, true, true, true] ⟨[(1, .cell ⟨.list (.user 0), s1⟩), (5, .sl 0 8 s5o s5n), (6, .cell ⟨.int .i64, s6⟩), (57, .cell ⟨.bool, s57⟩)], [.row 27 (.user 0) r0]⟩
theorem kitKeptIns_g1_eq (n : Nat) (x0 : List Ins) (x1 : Nat) (x2 : Nat) (x3 : List Ins) : kitKeptIns_g1 n x0 x1 x2 x3 =
  forkB (((x2 : Nat) : Int) != ((x3.length : Nat) : Int))
  (some ((x0, ()), (false, ())))
  (if 0 ≤ (0 : Int) ∧ (0 : Int) ≤ IntKind.i64.wrap (((x3.length : Nat) : Int) + (12 : Int)) ∧ (IntKind.i64.wrap (((x3.length : Nat) : Int) + (12 : Int)) ≤ ((x2 : Nat) : Int) ∨ (((x1 : Nat) : Int) + IntKind.i64.wrap (((x3.length : Nat) : Int) + (12 : Int)) ≤ ((x0.length : Nat) : Int) ∧ (x1 = 0 ∨ 0 < x2))) then (kitKeptIns_g1_L0 n x3 (x1 + 0) (((IntKind.i64.wrap (((x3.length : Nat) : Int) + (12 : Int))).toNat) - 0) (0 : Int) x0) else none) := by kernel_rfl
theorem kitKeptIns_g1_L0_eq (n : Nat) (s1 : List Ins) (s5o : Nat) (s5n : Nat) (s6 : Int) (r0 : List Ins) : kitKeptIns_g1_L0 (n + 1) s1 s5o s5n s6 r0 =
  forkB (decide (s6 < ((s5n : Nat) : Int)))
  (forkB (decide (s6 < ((s1.length : Nat) : Int)))
   (if 0 ≤ s6 ∧ s6 < ((s5n : Nat) : Int) then (if s5o + s6.toNat < r0.length then (if 0 ≤ s6 ∧ s6 < ((s1.length : Nat) : Int) then (forkB (!((((r0.getD (s5o + s6.toNat) dIns).Op) == ((s1.getD s6.toNat dIns).Op)) && ((((r0.getD (s5o + s6.toNat) dIns).Narrow) == ((s1.getD s6.toNat dIns).Narrow)) && ((((r0.getD (s5o + s6.toNat) dIns).Dst) == ((s1.getD s6.toNat dIns).Dst)) && ((((r0.getD (s5o + s6.toNat) dIns).Src) == ((s1.getD s6.toNat dIns).Src)) && ((((r0.getD (s5o + s6.toNat) dIns).UseImm) == ((s1.getD s6.toNat dIns).UseImm)) && ((((r0.getD (s5o + s6.toNat) dIns).Off) == ((s1.getD s6.toNat dIns).Off)) && ((((r0.getD (s5o + s6.toNat) dIns).Imm) == ((s1.getD s6.toNat dIns).Imm)) && (((r0.getD (s5o + s6.toNat) dIns).Size) == ((s1.getD s6.toNat dIns).Size))))))))))
    (kitKeptIns_g1_J1 n s1 s5o s5n s6 true r0)
    (forkB (decide (s6 ≥ ((s1.length : Nat) : Int)))
     (if 0 ≤ s6 ∧ s6 < ((s5n : Nat) : Int) then (if s5o + s6.toNat < r0.length then (obind (kit_markIns BIG (1 : Int) (IntKind.i64.wrap (s6 - ((s1.length : Nat) : Int)))) fun y1 =>
      kitKeptIns_g1_J1 n s1 s5o s5n s6 (!((((r0.getD (s5o + s6.toNat) dIns).Op) == y1.Op) && ((((r0.getD (s5o + s6.toNat) dIns).Narrow) == y1.Narrow) && ((((r0.getD (s5o + s6.toNat) dIns).Dst) == y1.Dst) && ((((r0.getD (s5o + s6.toNat) dIns).Src) == y1.Src) && ((((r0.getD (s5o + s6.toNat) dIns).UseImm) == y1.UseImm) && ((((r0.getD (s5o + s6.toNat) dIns).Off) == y1.Off) && ((((r0.getD (s5o + s6.toNat) dIns).Imm) == y1.Imm) && (((r0.getD (s5o + s6.toNat) dIns).Size) == y1.Size))))))))) r0) else none) else none)
     (kitKeptIns_g1_J1 n s1 s5o s5n s6 false r0))) else none) else none) else none)
   (forkB (decide (s6 ≥ ((s1.length : Nat) : Int)))
    (if 0 ≤ s6 ∧ s6 < ((s5n : Nat) : Int) then (if s5o + s6.toNat < r0.length then (obind (kit_markIns BIG (1 : Int) (IntKind.i64.wrap (s6 - ((s1.length : Nat) : Int)))) fun y2 =>
     kitKeptIns_g1_J1 n s1 s5o s5n s6 (!((((r0.getD (s5o + s6.toNat) dIns).Op) == y2.Op) && ((((r0.getD (s5o + s6.toNat) dIns).Narrow) == y2.Narrow) && ((((r0.getD (s5o + s6.toNat) dIns).Dst) == y2.Dst) && ((((r0.getD (s5o + s6.toNat) dIns).Src) == y2.Src) && ((((r0.getD (s5o + s6.toNat) dIns).UseImm) == y2.UseImm) && ((((r0.getD (s5o + s6.toNat) dIns).Off) == y2.Off) && ((((r0.getD (s5o + s6.toNat) dIns).Imm) == y2.Imm) && (((r0.getD (s5o + s6.toNat) dIns).Size) == y2.Size))))))))) r0) else none) else none)
    (kitKeptIns_g1_J1 n s1 s5o s5n s6 false r0)))
  (some ((r0, ()), (true, ()))) := by kernel_rfl
theorem kitKeptIns_g1_J1_eq (n : Nat) (s1 : List Ins) (s5o : Nat) (s5n : Nat) (s6 : Int) (s57 : Bool) (r0 : List Ins) : kitKeptIns_g1_J1 (n + 1) s1 s5o s5n s6 s57 r0 =
  forkB s57
  (some ((r0, ()), (false, ())))
  (kitKeptIns_g1_L0 n s1 s5o s5n (IntKind.i64.wrap (s6 + (1 : Int))) r0) := by kernel_rfl
noncomputable def kitKeptIns_g1_sp : GSpec TT := ⟨[.slr 27 (.user 0), .val (.list (.user 0))], [.row 27 (.user 0)], [.val (.bool)], fun x => kitKeptIns_g1 BIG x.1.1 x.1.2.1 x.1.2.2 x.2.1⟩
theorem kitKeptIns_g1_ok : GOk TT Try.prog 21 kitKeptIns_g1_sp := gOk_of (C := kitKeptIns_g1_C) (cuts := kitKeptIns_g1_cuts) (by kernel_rfl) kitKeptIns_g1_env Try.func21 (show Try.f21.body = some (bodyOf Try.f21) by kernel_rfl) (by kernel_rfl) (by kernel_rfl) (by kernel_rfl) fun x y h => ⟨BIG, h⟩
noncomputable def law06InsRight_C : Ctx TT := ⟨tyOf, [(12, law06_awake_sp.toCall), (13, insRight_sp.toCall), (14, ref06Right_sp.toCall), (15, insJumps_sp.toCall), (16, ref06Jumps_sp.toCall), (18, insNext_g3_sp.toCall (insNext_g2_sp.toCall (insNext_g1_sp.toCall (noCall TT)))), (19, ref06Next_sp.toCall), (17, kitSameInts_sp.toCall), (20, kitLentIns_g1_sp.toCall (noCall TT)), (21, kitKeptIns_g1_sp.toCall (noCall TT))], 0, [(8, 0)]⟩
theorem law06InsRight_env : EnvOk TT Try.prog law06InsRight_C.E := envG (fnCall_ok law06_awake_ok) (envG (fnCall_ok insRight_ok) (envG (fnCall_ok ref06Right_ok) (envG (fnCall_ok insJumps_ok) (envG (fnCall_ok ref06Jumps_ok) (envG (gCall_ok insNext_g3_ok (gCall_ok insNext_g2_ok (gCall_ok insNext_g1_ok (noCall_ok 18)))) (envG (fnCall_ok ref06Next_ok) (envG (fnCall_ok kitSameInts_ok) (envG (gCall_ok kitLentIns_g1_ok (noCall_ok 20)) (envG (gCall_ok kitKeptIns_g1_ok (noCall_ok 21)) (envNil))))))))))
def law06InsRight_cuts : List (Pos × Cut) := [([false, true, false, true, true, true], ⟨[0, 1, 5], [], false, []⟩), ([false, false, true, false, false, true, false, true, true, true], ⟨[0, 1, 5, 51], [], false, []⟩)]
noncomputable def law06InsRight (n : Nat) (x0 : List Ins) (x1 : Int) : Option (Bool) := topF TT Try.prog law06InsRight_C law06InsRight_cuts Try.f3 (bodyOf Try.f3) [.val (.list (.user 0)), .val (.int .i64)] [.val (.bool)] n (x0, x1)
noncomputable def law06InsRight_L0 (n : Nat) (s0 : List Ins) (s1 : Int) (s5 : Int) : Option (Bool) := cutF TT Try.prog law06InsRight_C law06InsRight_cuts Try.f3 (bodyOf Try.f3) [.val (.list (.user 0)), .val (.int .i64)] [.val (.bool)] n [false, true, false, true, true, true] ⟨[(0, .cell ⟨.list (.user 0), s0⟩), (1, .cell ⟨.int .i64, s1⟩), (5, .cell ⟨.int .i64, s5⟩)], []⟩
noncomputable def law06InsRight_J1 (n : Nat) (s0 : List Ins) (s1 : Int) (s5 : Int) (s51 : Bool) : Option (Bool) := cutF TT Try.prog law06InsRight_C law06InsRight_cuts Try.f3 (bodyOf Try.f3) [.val (.list (.user 0)), .val (.int .i64)] [.val (.bool)] n [false, false, true, false, false, true, false, true, true, true] ⟨[(0, .cell ⟨.list (.user 0), s0⟩), (1, .cell ⟨.int .i64, s1⟩), (5, .cell ⟨.int .i64, s5⟩), (51, .cell ⟨.bool, s51⟩)], []⟩
theorem law06InsRight_eq (n : Nat) (x0 : List Ins) (x1 : Int) : law06InsRight n x0 x1 =
  obind (law06_awake BIG ) fun y1 =>
  forkB (!y1)
  (some false)
  (forkB (decide (((x0.length : Nat) : Int) > (400 : Int)))
   (some true)
   (law06InsRight_L0 n x0 x1 (0 : Int))) := by kernel_rfl
theorem law06InsRight_L0_eq (n : Nat) (s0 : List Ins) (s1 : Int) (s5 : Int) : law06InsRight_L0 (n + 1) s0 s1 s5 =
  forkB (decide (s5 < ((s0.length : Nat) : Int)))
  (if 0 ≤ s5 ∧ s5 < ((s0.length : Nat) : Int) then (obind (insRight BIG (s0.getD s5.toNat dIns)) fun y1 =>
   if 0 ≤ s5 ∧ s5 < ((s0.length : Nat) : Int) then (obind (ref06Right BIG (s0.getD s5.toNat dIns)) fun y2 =>
   forkB (!(y1 == y2))
   (law06InsRight_J1 n s0 s1 s5 true)
   (if 0 ≤ s5 ∧ s5 < ((s0.length : Nat) : Int) then (obind (insJumps BIG (s0.getD s5.toNat dIns)) fun y3 =>
    if 0 ≤ s5 ∧ s5 < ((s0.length : Nat) : Int) then (obind (ref06Jumps BIG (s0.getD s5.toNat dIns)) fun y4 =>
    forkB (!(y3 == y4))
    (law06InsRight_J1 n s0 s1 s5 true)
    (obind (insNext_g1 BIG s0 s5) fun y5 =>
     obind (ref06Next BIG s0 s5) fun y6 =>
     if y5.2.1.2.1 + y5.2.1.2.2 ≤ y5.2.1.1.length then (obind (kitSameInts BIG (List.take y5.2.1.2.2 (List.drop y5.2.1.2.1 y5.2.1.1)) y6) fun y7 =>
     law06InsRight_J1 n s0 s1 s5 (!y7)) else none)) else none) else none)) else none) else none)
  (obind (kitLentIns_g1 BIG s0) fun y8 =>
   obind (insNext_g3 BIG y8.2.1.1 y8.2.1.2.1 y8.2.1.2.2 s1) fun y9 =>
   obind (ref06Next BIG s0 s1) fun y10 =>
   if y9.2.1.2.1 + y9.2.1.2.2 ≤ y9.2.1.1.length then (obind (kitSameInts BIG (List.take y9.2.1.2.2 (List.drop y9.2.1.2.1 y9.2.1.1)) y10) fun y11 =>
   forkB y11
   (obind (kitKeptIns_g1 BIG y9.1.1 y8.2.1.2.1 y8.2.1.2.2 s0) fun y12 =>
    some y12.2.1)
   (some false)) else none) := by kernel_rfl
theorem law06InsRight_J1_eq (n : Nat) (s0 : List Ins) (s1 : Int) (s5 : Int) (s51 : Bool) : law06InsRight_J1 (n + 1) s0 s1 s5 s51 =
  forkB s51
  (some false)
  (law06InsRight_L0 n s0 s1 (IntKind.i64.wrap (s5 + (1 : Int)))) := by kernel_rfl
noncomputable def law06InsRight_sp : FnSpec TT := ⟨[.val (.list (.user 0)), .val (.int .i64)], [.val (.bool)], fun x => law06InsRight BIG x.1 x.2⟩
theorem law06InsRight_ok : FnOk TT Try.prog 3 law06InsRight_sp := fnOk_of (C := law06InsRight_C) (by kernel_rfl) law06InsRight_env Try.func3 (show Try.f3.body = some (bodyOf Try.f3) by kernel_rfl) (by kernel_rfl) (by kernel_rfl) (cuts := law06InsRight_cuts) fun x y h => ⟨BIG, h⟩
noncomputable def kit_markByte_C : Ctx TT := ⟨tyOf, [(63, kit_mark_sp.toCall)], 0, []⟩
theorem kit_markByte_env : EnvOk TT Try.prog kit_markByte_C.E := envG (fnCall_ok kit_mark_ok) (envNil)
def kit_markByte_cuts : List (Pos × Cut) := []
noncomputable def kit_markByte (n : Nat) (x0 : Int) (x1 : Int) : Option (Int) := topF TT Try.prog kit_markByte_C kit_markByte_cuts Try.f47 (bodyOf Try.f47) [.val (.int .i64), .val (.int .i64)] [.val (.int .u8)] n (x0, x1)
theorem kit_markByte_eq (n : Nat) (x0 : Int) (x1 : Int) : kit_markByte n x0 x1 =
  obind (kit_mark BIG x0 x1) fun y1 =>
  some (IntKind.u8.wrap (sShr .u64 (IntKind.u64.wrap ((IntKind.u64.wrap y1) * (11400714819323198485 : Int))) (56 : Int))) := by kernel_rfl
noncomputable def kit_markByte_sp : FnSpec TT := ⟨[.val (.int .i64), .val (.int .i64)], [.val (.int .u8)], fun x => kit_markByte BIG x.1 x.2⟩
theorem kit_markByte_ok : FnOk TT Try.prog 47 kit_markByte_sp := fnOk_of (C := kit_markByte_C) (by kernel_rfl) kit_markByte_env Try.func47 (show Try.f47.body = some (bodyOf Try.f47) by kernel_rfl) (by kernel_rfl) (by kernel_rfl) (cuts := kit_markByte_cuts) fun x y h => ⟨BIG, h⟩
noncomputable def kitLentBytes_g1_C : Ctx TT := ⟨tyOf, [(47, kit_markByte_sp.toCall)], 0, []⟩
theorem kitLentBytes_g1_env : EnvOk TT Try.prog kitLentBytes_g1_C.E := envG (fnCall_ok kit_markByte_ok) (envNil)
def kitLentBytes_g1_cuts : List (Pos × Cut) := [([false, true, false, true, true, true], ⟨[0, 3, 4], [], false, []⟩)]
noncomputable def kitLentBytes_g1 (n : Nat) (x0 : List Int) : Option ((Unit) × ((List Int × Nat × Nat) × Unit)) := topG TT Try.prog kitLentBytes_g1_C kitLentBytes_g1_cuts Try.f22 (bodyOf Try.f22) ⟨[], [], []⟩ [.val (.list (.int .u8))] [] [.slr 5 (.int .u8)] n (x0, ())
noncomputable def kitLentBytes_g1_L0 (n : Nat) (s0 : List Int) (s4 : Int) (r0 : List Int) : Option ((Unit) × ((List Int × Nat × Nat) × Unit)) := cutG TT Try.prog kitLentBytes_g1_C kitLentBytes_g1_cuts Try.f22 (bodyOf Try.f22) ⟨[], [], []⟩ [] [.slr 5 (.int .u8)] n [false, true, false, true, true, true] ⟨[(0, .cell ⟨.list (.int .u8), s0⟩), (3, .own 0), (4, .cell ⟨.int .i64, s4⟩)], [.row 5 (.int .u8) r0]⟩
theorem kitLentBytes_g1_eq (n : Nat) (x0 : List Int) : kitLentBytes_g1 n x0 =
  if 0 ≤ (0 : Int) ∧ (0 : Int) ≤ IntKind.i64.wrap (((x0.length : Nat) : Int) + (12 : Int)) ∧ 1 * ((IntKind.i64.wrap (((x0.length : Nat) : Int) + (12 : Int))).toNat) ≤ 281474976710656 ∧ IntKind.i64.wrap (((x0.length : Nat) : Int) + (12 : Int)) ≤ 9223372036854775807 then (if ((List.replicate 0 (0 : Int)).length + x0.length) * 1 ≤ 140737488355328 then (kitLentBytes_g1_L0 n x0 (0 : Int) ((List.replicate 0 (0 : Int)) ++ x0)) else none) else none := by kernel_rfl
theorem kitLentBytes_g1_L0_eq (n : Nat) (s0 : List Int) (s4 : Int) (r0 : List Int) : kitLentBytes_g1_L0 (n + 1) s0 s4 r0 =
  forkB (decide (s4 < (12 : Int)))
  (obind (kit_markByte BIG (1 : Int) s4) fun y1 =>
   if (r0.length + 1) * 1 ≤ 140737488355328 then (kitLentBytes_g1_L0 n s0 (IntKind.i64.wrap (s4 + (1 : Int))) (r0 ++ ([y1] : List Int))) else none)
  (if 0 ≤ (0 : Int) ∧ (0 : Int) ≤ ((s0.length : Nat) : Int) ∧ ((s0.length : Nat) : Int) ≤ ((r0.length : Nat) : Int) then (some ((), ((r0, 0, (((s0.length : Nat) : Int).toNat) - 0), ()))) else none) := by kernel_rfl
noncomputable def kitLentBytes_g1_sp : GSpec TT := ⟨[.val (.list (.int .u8))], [], [.slr 5 (.int .u8)], fun x => kitLentBytes_g1 BIG x.1⟩
theorem kitLentBytes_g1_ok : GOk TT Try.prog 22 kitLentBytes_g1_sp := gOk_of (C := kitLentBytes_g1_C) (cuts := kitLentBytes_g1_cuts) (by kernel_rfl) kitLentBytes_g1_env Try.func22 (show Try.f22.body = some (bodyOf Try.f22) by kernel_rfl) (by kernel_rfl) (by kernel_rfl) (by kernel_rfl) fun x y h => ⟨BIG, h⟩
noncomputable def kitKeptBytes_g1_C : Ctx TT := ⟨tyOf, [(47, kit_markByte_sp.toCall)], 1, []⟩
theorem kitKeptBytes_g1_env : EnvOk TT Try.prog kitKeptBytes_g1_C.E := envG (fnCall_ok kit_markByte_ok) (envNil)
def kitKeptBytes_g1_cuts : List (Pos × Cut) := [([false, true, false, true, true, true], ⟨[1, 5, 6], [], false, []⟩), ([false, false, true, false, false, true, false, true, true, true], ⟨[1, 5, 6, 57], [], false, []⟩)]
noncomputable def kitKeptBytes_g1 (n : Nat) (x0 : List Int) (x1 : Nat) (x2 : Nat) (x3 : List Int) : Option ((List Int × Unit) × (Bool × Unit)) := topG TT Try.prog kitKeptBytes_g1_C kitKeptBytes_g1_cuts Try.f29 (bodyOf Try.f29) ⟨[], [], []⟩ [.slr 5 (.int .u8), .val (.list (.int .u8))] [.row 5 (.int .u8)] [.val (.bool)] n ((x0, x1, x2), x3, ())
noncomputable def kitKeptBytes_g1_L0 (n : Nat) (s1 : List Int) (s5o : Nat) (s5n : Nat) (s6 : Int) (r0 : List Int) : Option ((List Int × Unit) × (Bool × Unit)) := cutG TT Try.prog kitKeptBytes_g1_C kitKeptBytes_g1_cuts Try.f29 (bodyOf Try.f29) ⟨[], [], []⟩ [.row 5 (.int .u8)] [.val (.bool)] n [false, true, false, true, true, true] ⟨[(1, .cell ⟨.list (.int .u8), s1⟩), (5, .sl 0 1 s5o s5n), (6, .cell ⟨.int .i64, s6⟩)], [.row 5 (.int .u8) r0]⟩
noncomputable def kitKeptBytes_g1_J1 (n : Nat) (s1 : List Int) (s5o : Nat) (s5n : Nat) (s6 : Int) (s57 : Bool) (r0 : List Int) : Option ((List Int × Unit) × (Bool × Unit)) := cutG TT Try.prog kitKeptBytes_g1_C kitKeptBytes_g1_cuts Try.f29 (bodyOf Try.f29) ⟨[], [], []⟩ [.row 5 (.int .u8)] [.val (.bool)] n [false, false, true, false, false, true, false, true, true, true] ⟨[(1, .cell ⟨.list (.int .u8), s1⟩), (5, .sl 0 1 s5o s5n), (6, .cell ⟨.int .i64, s6⟩), (57, .cell ⟨.bool, s57⟩)], [.row 5 (.int .u8) r0]⟩
theorem kitKeptBytes_g1_eq (n : Nat) (x0 : List Int) (x1 : Nat) (x2 : Nat) (x3 : List Int) : kitKeptBytes_g1 n x0 x1 x2 x3 =
  forkB (((x2 : Nat) : Int) != ((x3.length : Nat) : Int))
  (some ((x0, ()), (false, ())))
  (if 0 ≤ (0 : Int) ∧ (0 : Int) ≤ IntKind.i64.wrap (((x3.length : Nat) : Int) + (12 : Int)) ∧ (IntKind.i64.wrap (((x3.length : Nat) : Int) + (12 : Int)) ≤ ((x2 : Nat) : Int) ∨ (((x1 : Nat) : Int) + IntKind.i64.wrap (((x3.length : Nat) : Int) + (12 : Int)) ≤ ((x0.length : Nat) : Int) ∧ (x1 = 0 ∨ 0 < x2))) then (kitKeptBytes_g1_L0 n x3 (x1 + 0) (((IntKind.i64.wrap (((x3.length : Nat) : Int) + (12 : Int))).toNat) - 0) (0 : Int) x0) else none) := by kernel_rfl
theorem kitKeptBytes_g1_L0_eq (n : Nat) (s1 : List Int) (s5o : Nat) (s5n : Nat) (s6 : Int) (r0 : List Int) : kitKeptBytes_g1_L0 (n + 1) s1 s5o s5n s6 r0 =
  forkB (decide (s6 < ((s5n : Nat) : Int)))
  (forkB (decide (s6 < ((s1.length : Nat) : Int)))
   (if 0 ≤ s6 ∧ s6 < ((s5n : Nat) : Int) then (if s5o + s6.toNat < r0.length then (if 0 ≤ s6 ∧ s6 < ((s1.length : Nat) : Int) then (forkB (!((r0.getD (s5o + s6.toNat) (0 : Int)) == (s1.getD s6.toNat (0 : Int))))
    (kitKeptBytes_g1_J1 n s1 s5o s5n s6 true r0)
    (forkB (decide (s6 ≥ ((s1.length : Nat) : Int)))
     (if 0 ≤ s6 ∧ s6 < ((s5n : Nat) : Int) then (if s5o + s6.toNat < r0.length then (obind (kit_markByte BIG (1 : Int) (IntKind.i64.wrap (s6 - ((s1.length : Nat) : Int)))) fun y1 =>
      kitKeptBytes_g1_J1 n s1 s5o s5n s6 (!((r0.getD (s5o + s6.toNat) (0 : Int)) == y1)) r0) else none) else none)
     (kitKeptBytes_g1_J1 n s1 s5o s5n s6 false r0))) else none) else none) else none)
   (forkB (decide (s6 ≥ ((s1.length : Nat) : Int)))
    (if 0 ≤ s6 ∧ s6 < ((s5n : Nat) : Int) then (if s5o + s6.toNat < r0.length then (obind (kit_markByte BIG (1 : Int) (IntKind.i64.wrap (s6 - ((s1.length : Nat) : Int)))) fun y2 =>
     kitKeptBytes_g1_J1 n s1 s5o s5n s6 (!((r0.getD (s5o + s6.toNat) (0 : Int)) == y2)) r0) else none) else none)
    (kitKeptBytes_g1_J1 n s1 s5o s5n s6 false r0)))
  (some ((r0, ()), (true, ()))) := by kernel_rfl
theorem kitKeptBytes_g1_J1_eq (n : Nat) (s1 : List Int) (s5o : Nat) (s5n : Nat) (s6 : Int) (s57 : Bool) (r0 : List Int) : kitKeptBytes_g1_J1 (n + 1) s1 s5o s5n s6 s57 r0 =
  forkB s57
  (some ((r0, ()), (false, ())))
  (kitKeptBytes_g1_L0 n s1 s5o s5n (IntKind.i64.wrap (s6 + (1 : Int))) r0) := by kernel_rfl
noncomputable def kitKeptBytes_g1_sp : GSpec TT := ⟨[.slr 5 (.int .u8), .val (.list (.int .u8))], [.row 5 (.int .u8)], [.val (.bool)], fun x => kitKeptBytes_g1 BIG x.1.1 x.1.2.1 x.1.2.2 x.2.1⟩
theorem kitKeptBytes_g1_ok : GOk TT Try.prog 29 kitKeptBytes_g1_sp := gOk_of (C := kitKeptBytes_g1_C) (cuts := kitKeptBytes_g1_cuts) (by kernel_rfl) kitKeptBytes_g1_env Try.func29 (show Try.f29.body = some (bodyOf Try.f29) by kernel_rfl) (by kernel_rfl) (by kernel_rfl) (by kernel_rfl) fun x y h => ⟨BIG, h⟩
noncomputable def law06InsBytes_C : Ctx TT := ⟨tyOf, [(12, law06_awake_sp.toCall), (20, kitLentIns_g1_sp.toCall (noCall TT)), (22, kitLentBytes_g1_sp.toCall (noCall TT)), (23, insPut_sp.toCall), (24, ref06Put_sp.toCall), (25, insGet_sp.toCall), (26, ref06Get_sp.toCall), (27, kitSameBytes_sp.toCall), (28, kitSameIns_sp.toCall), (21, kitKeptIns_g1_sp.toCall (noCall TT)), (29, kitKeptBytes_g1_sp.toCall (noCall TT))], 0, []⟩
theorem law06InsBytes_env : EnvOk TT Try.prog law06InsBytes_C.E := envG (fnCall_ok law06_awake_ok) (envG (gCall_ok kitLentIns_g1_ok (noCall_ok 20)) (envG (gCall_ok kitLentBytes_g1_ok (noCall_ok 22)) (envG (fnCall_ok insPut_ok) (envG (fnCall_ok ref06Put_ok) (envG (fnCall_ok insGet_ok) (envG (fnCall_ok ref06Get_ok) (envG (fnCall_ok kitSameBytes_ok) (envG (fnCall_ok kitSameIns_ok) (envG (gCall_ok kitKeptIns_g1_ok (noCall_ok 21)) (envG (gCall_ok kitKeptBytes_g1_ok (noCall_ok 29)) (envNil)))))))))))
def law06InsBytes_cuts : List (Pos × Cut) := [([false, true, true], ⟨[0, 1, 24], [], false, []⟩)]
noncomputable def law06InsBytes (n : Nat) (x0 : List Ins) (x1 : List Int) : Option (Bool) := topF TT Try.prog law06InsBytes_C law06InsBytes_cuts Try.f4 (bodyOf Try.f4) [.val (.list (.user 0)), .val (.list (.int .u8))] [.val (.bool)] n (x0, x1)
noncomputable def law06InsBytes_J0 (n : Nat) (s0 : List Ins) (s1 : List Int) (s24 : Bool) : Option (Bool) := cutF TT Try.prog law06InsBytes_C law06InsBytes_cuts Try.f4 (bodyOf Try.f4) [.val (.list (.user 0)), .val (.list (.int .u8))] [.val (.bool)] n [false, true, true] ⟨[(0, .cell ⟨.list (.user 0), s0⟩), (1, .cell ⟨.list (.int .u8), s1⟩), (24, .cell ⟨.bool, s24⟩)], []⟩
theorem law06InsBytes_eq (n : Nat) (x0 : List Ins) (x1 : List Int) : law06InsBytes n x0 x1 =
  obind (law06_awake BIG ) fun y1 =>
  forkB (!y1)
  (some false)
  (forkB (decide (((x0.length : Nat) : Int) > (400 : Int)))
   (law06InsBytes_J0 n x0 x1 true)
   (law06InsBytes_J0 n x0 x1 (decide (((x1.length : Nat) : Int) > (4000 : Int))))) := by kernel_rfl
theorem law06InsBytes_J0_eq (n : Nat) (s0 : List Ins) (s1 : List Int) (s24 : Bool) : law06InsBytes_J0 (n + 1) s0 s1 s24 =
  forkB s24
  (some true)
  (obind (kitLentIns_g1 BIG s0) fun y1 =>
   obind (kitLentBytes_g1 BIG s1) fun y2 =>
   if y1.2.1.2.1 + y1.2.1.2.2 ≤ y1.2.1.1.length then (obind (insPut BIG (List.take y1.2.1.2.2 (List.drop y1.2.1.2.1 y1.2.1.1))) fun y3 =>
   obind (ref06Put BIG s0) fun y4 =>
   if y2.2.1.2.1 + y2.2.1.2.2 ≤ y2.2.1.1.length then (obind (insGet BIG (List.take y2.2.1.2.2 (List.drop y2.2.1.2.1 y2.2.1.1))) fun y5 =>
   obind (ref06Get BIG s1) fun y6 =>
   forkB (y3.2 == y4.2)
   (obind (kitSameBytes BIG y3.1 y4.1) fun y7 =>
    forkB y7
    (forkB (y5.2 == y6.2)
     (obind (kitSameIns BIG y5.1 y6.1) fun y8 =>
      forkB y8
      (obind (kitKeptIns_g1 BIG y1.2.1.1 y1.2.1.2.1 y1.2.1.2.2 s0) fun y9 =>
       forkB y9.2.1
       (obind (kitKeptBytes_g1 BIG y2.2.1.1 y2.2.1.2.1 y2.2.1.2.2 s1) fun y10 =>
        some y10.2.1)
       (some false))
      (some false))
     (some false))
    (some false))
   (some false)) else none) else none) := by kernel_rfl
noncomputable def law06InsBytes_sp : FnSpec TT := ⟨[.val (.list (.user 0)), .val (.list (.int .u8))], [.val (.bool)], fun x => law06InsBytes BIG x.1 x.2⟩
theorem law06InsBytes_ok : FnOk TT Try.prog 4 law06InsBytes_sp := fnOk_of (C := law06InsBytes_C) (by kernel_rfl) law06InsBytes_env Try.func4 (show Try.f4.body = some (bodyOf Try.f4) by kernel_rfl) (by kernel_rfl) (by kernel_rfl) (cuts := law06InsBytes_cuts) fun x y h => ⟨BIG, h⟩
noncomputable def law06InsLong_C : Ctx TT := ⟨tyOf, [(12, law06_awake_sp.toCall), (30, kitPick_sp.toCall), (23, insPut_sp.toCall), (25, insGet_sp.toCall)], 0, []⟩
theorem law06InsLong_env : EnvOk TT Try.prog law06InsLong_C.E := envG (fnCall_ok law06_awake_ok) (envG (fnCall_ok kitPick_ok) (envG (fnCall_ok insPut_ok) (envG (fnCall_ok insGet_ok) (envNil))))
def law06InsLong_cuts : List (Pos × Cut) := [([false, true, false, true, true, true], ⟨[0, 1, 5, 6], [(5, 27, .user 0)], false, []⟩), ([true, true, true, true], ⟨[1, 5], [], false, []⟩), ([false, true, true, true, true, true, true, true], ⟨[5, 9, 74], [], false, []⟩), ([false, true, false, true, true, true, true, true, true, true, true, true], ⟨[5, 9, 10, 11], [], false, []⟩), ([false, true, false, true, true, true, true, true, true, true, true, true, true, true], ⟨[4], [], false, []⟩)]
noncomputable def law06InsLong (n : Nat) (x0 : Int) (x1 : Bool) : Option (Bool) := topF TT Try.prog law06InsLong_C law06InsLong_cuts Try.f5 (bodyOf Try.f5) [.val (.int .i64), .val (.bool)] [.val (.bool)] n (x0, x1)
noncomputable def law06InsLong_L0 (n : Nat) (s0 : Int) (s1 : Bool) (s6 : Int) (r0 : List Ins) : Option (Bool) := cutF TT Try.prog law06InsLong_C law06InsLong_cuts Try.f5 (bodyOf Try.f5) [.val (.int .i64), .val (.bool)] [.val (.bool)] n [false, true, false, true, true, true] ⟨[(0, .cell ⟨.int .i64, s0⟩), (1, .cell ⟨.bool, s1⟩), (5, .own 0), (6, .cell ⟨.int .i64, s6⟩)], [.row 27 (.user 0) r0]⟩
noncomputable def law06InsLong_J1 (n : Nat) (s1 : Bool) (r0 : List Ins) : Option (Bool) := cutF TT Try.prog law06InsLong_C law06InsLong_cuts Try.f5 (bodyOf Try.f5) [.val (.int .i64), .val (.bool)] [.val (.bool)] n [true, true, true, true] ⟨[(1, .cell ⟨.bool, s1⟩), (5, .own 0)], [.row 27 (.user 0) r0]⟩
noncomputable def law06InsLong_J2 (n : Nat) (s9 : Bool) (s74 : Bool) (r0 : List Ins) : Option (Bool) := cutF TT Try.prog law06InsLong_C law06InsLong_cuts Try.f5 (bodyOf Try.f5) [.val (.int .i64), .val (.bool)] [.val (.bool)] n [false, true, true, true, true, true, true, true] ⟨[(5, .own 0), (9, .cell ⟨.bool, s9⟩), (74, .cell ⟨.bool, s74⟩)], [.row 27 (.user 0) r0]⟩
noncomputable def law06InsLong_L3 (n : Nat) (s9 : Bool) (s11 : Int) (r0 : List Ins) (r1 : List Int) : Option (Bool) := cutF TT Try.prog law06InsLong_C law06InsLong_cuts Try.f5 (bodyOf Try.f5) [.val (.int .i64), .val (.bool)] [.val (.bool)] n [false, true, false, true, true, true, true, true, true, true, true, true] ⟨[(5, .own 0), (9, .cell ⟨.bool, s9⟩), (10, .own 1), (11, .cell ⟨.int .i64, s11⟩)], [.row 27 (.user 0) r0, .row 5 (.int .u8) r1]⟩
noncomputable def law06InsLong_J4 (n : Nat) (s4 : Bool) : Option (Bool) := cutF TT Try.prog law06InsLong_C law06InsLong_cuts Try.f5 (bodyOf Try.f5) [.val (.int .i64), .val (.bool)] [.val (.bool)] n [false, true, false, true, true, true, true, true, true, true, true, true, true, true] ⟨[(4, .cell ⟨.bool, s4⟩)], []⟩
theorem law06InsLong_eq (n : Nat) (x0 : Int) (x1 : Bool) : law06InsLong n x0 x1 =
  obind (law06_awake BIG ) fun y1 =>
  forkB (!y1)
  (some false)
  (law06InsLong_L0 n x0 x1 (0 : Int) ([] : List Ins)) := by kernel_rfl
theorem law06InsLong_L0_eq (n : Nat) (s0 : Int) (s1 : Bool) (s6 : Int) (r0 : List Ins) : law06InsLong_L0 (n + 1) s0 s1 s6 r0 =
  obind (kitPick BIG s0 (12 : Int)) fun y1 =>
  forkB (decide (s6 < (IntKind.i64.wrap ((4090 : Int) + y1))))
  (if (r0.length + 1) * 56 ≤ 140737488355328 then (law06InsLong_L0 n s0 s1 (IntKind.i64.wrap (s6 + (1 : Int))) (r0 ++ ([(⟨(28 : Int), false, (0 : Int), (0 : Int), false, (0 : Int), (0 : Int), (0 : Int)⟩ : Ins)] : List Ins))) else none)
  (forkB s1
   (if 0 ≤ (0 : Int) ∧ (0 : Int) < ((r0.length : Nat) : Int) then (law06InsLong_J1 n s1 (r0.set 0 (⟨(r0.getD 0 dIns).Op, (r0.getD 0 dIns).Narrow, (r0.getD 0 dIns).Dst, (r0.getD 0 dIns).Src, (r0.getD 0 dIns).UseImm, (r0.getD 0 dIns).Off, (1 : Int), (r0.getD 0 dIns).Size⟩ : Ins))) else none)
   (law06InsLong_J1 n s1 r0)) := by kernel_rfl
theorem law06InsLong_J1_eq (n : Nat) (s1 : Bool) (r0 : List Ins) : law06InsLong_J1 (n + 1) s1 r0 =
  obind (insPut BIG r0) fun y1 =>
  forkB (decide (((r0.length : Nat) : Int) > (4096 : Int)))
  (forkB (y1.2 != (3 : Int))
   (law06InsLong_J2 n (decide (((r0.length : Nat) : Int) > (4096 : Int))) true r0)
   (forkB (!(decide (((r0.length : Nat) : Int) > (4096 : Int))))
    (forkB s1
     (forkB (y1.2 != (4 : Int))
      (law06InsLong_J2 n (decide (((r0.length : Nat) : Int) > (4096 : Int))) true r0)
      (forkB (!(decide (((r0.length : Nat) : Int) > (4096 : Int))))
       (forkB (!s1)
        (forkB (y1.2 != (0 : Int))
         (law06InsLong_J2 n (decide (((r0.length : Nat) : Int) > (4096 : Int))) true r0)
         (law06InsLong_J2 n (decide (((r0.length : Nat) : Int) > (4096 : Int))) (((y1.1.length : Nat) : Int) != (IntKind.i64.wrap ((8 : Int) * ((r0.length : Nat) : Int)))) r0))
        (law06InsLong_J2 n (decide (((r0.length : Nat) : Int) > (4096 : Int))) false r0))
       (law06InsLong_J2 n (decide (((r0.length : Nat) : Int) > (4096 : Int))) false r0)))
     (forkB (!(decide (((r0.length : Nat) : Int) > (4096 : Int))))
      (forkB (!s1)
       (forkB (y1.2 != (0 : Int))
        (law06InsLong_J2 n (decide (((r0.length : Nat) : Int) > (4096 : Int))) true r0)
        (law06InsLong_J2 n (decide (((r0.length : Nat) : Int) > (4096 : Int))) (((y1.1.length : Nat) : Int) != (IntKind.i64.wrap ((8 : Int) * ((r0.length : Nat) : Int)))) r0))
       (law06InsLong_J2 n (decide (((r0.length : Nat) : Int) > (4096 : Int))) false r0))
      (law06InsLong_J2 n (decide (((r0.length : Nat) : Int) > (4096 : Int))) false r0)))
    (forkB (!(decide (((r0.length : Nat) : Int) > (4096 : Int))))
     (forkB (!s1)
      (forkB (y1.2 != (0 : Int))
       (law06InsLong_J2 n (decide (((r0.length : Nat) : Int) > (4096 : Int))) true r0)
       (law06InsLong_J2 n (decide (((r0.length : Nat) : Int) > (4096 : Int))) (((y1.1.length : Nat) : Int) != (IntKind.i64.wrap ((8 : Int) * ((r0.length : Nat) : Int)))) r0))
      (law06InsLong_J2 n (decide (((r0.length : Nat) : Int) > (4096 : Int))) false r0))
     (law06InsLong_J2 n (decide (((r0.length : Nat) : Int) > (4096 : Int))) false r0))))
  (forkB (!(decide (((r0.length : Nat) : Int) > (4096 : Int))))
   (forkB s1
    (forkB (y1.2 != (4 : Int))
     (law06InsLong_J2 n (decide (((r0.length : Nat) : Int) > (4096 : Int))) true r0)
     (forkB (!(decide (((r0.length : Nat) : Int) > (4096 : Int))))
      (forkB (!s1)
       (forkB (y1.2 != (0 : Int))
        (law06InsLong_J2 n (decide (((r0.length : Nat) : Int) > (4096 : Int))) true r0)
        (law06InsLong_J2 n (decide (((r0.length : Nat) : Int) > (4096 : Int))) (((y1.1.length : Nat) : Int) != (IntKind.i64.wrap ((8 : Int) * ((r0.length : Nat) : Int)))) r0))
       (law06InsLong_J2 n (decide (((r0.length : Nat) : Int) > (4096 : Int))) false r0))
      (law06InsLong_J2 n (decide (((r0.length : Nat) : Int) > (4096 : Int))) false r0)))
    (forkB (!(decide (((r0.length : Nat) : Int) > (4096 : Int))))
     (forkB (!s1)
      (forkB (y1.2 != (0 : Int))
       (law06InsLong_J2 n (decide (((r0.length : Nat) : Int) > (4096 : Int))) true r0)
       (law06InsLong_J2 n (decide (((r0.length : Nat) : Int) > (4096 : Int))) (((y1.1.length : Nat) : Int) != (IntKind.i64.wrap ((8 : Int) * ((r0.length : Nat) : Int)))) r0))
      (law06InsLong_J2 n (decide (((r0.length : Nat) : Int) > (4096 : Int))) false r0))
     (law06InsLong_J2 n (decide (((r0.length : Nat) : Int) > (4096 : Int))) false r0)))
   (forkB (!(decide (((r0.length : Nat) : Int) > (4096 : Int))))
    (forkB (!s1)
     (forkB (y1.2 != (0 : Int))
      (law06InsLong_J2 n (decide (((r0.length : Nat) : Int) > (4096 : Int))) true r0)
      (law06InsLong_J2 n (decide (((r0.length : Nat) : Int) > (4096 : Int))) (((y1.1.length : Nat) : Int) != (IntKind.i64.wrap ((8 : Int) * ((r0.length : Nat) : Int)))) r0))
     (law06InsLong_J2 n (decide (((r0.length : Nat) : Int) > (4096 : Int))) false r0))
    (law06InsLong_J2 n (decide (((r0.length : Nat) : Int) > (4096 : Int))) false r0))) := by kernel_rfl
theorem law06InsLong_J2_eq (n : Nat) (s9 : Bool) (s74 : Bool) (r0 : List Ins) : law06InsLong_J2 (n + 1) s9 s74 r0 =
  forkB s74
  (some false)
  (if 0 ≤ IntKind.i64.wrap ((8 : Int) * ((r0.length : Nat) : Int)) ∧ IntKind.i64.wrap ((8 : Int) * ((r0.length : Nat) : Int)) ≤ IntKind.i64.wrap ((8 : Int) * ((r0.length : Nat) : Int)) ∧ 1 * ((IntKind.i64.wrap ((8 : Int) * ((r0.length : Nat) : Int))).toNat) ≤ 281474976710656 ∧ IntKind.i64.wrap ((8 : Int) * ((r0.length : Nat) : Int)) ≤ 9223372036854775807 then (law06InsLong_L3 n s9 (0 : Int) r0 (List.replicate ((IntKind.i64.wrap ((8 : Int) * ((r0.length : Nat) : Int))).toNat) (0 : Int))) else none) := by kernel_rfl
theorem law06InsLong_L3_eq (n : Nat) (s9 : Bool) (s11 : Int) (r0 : List Ins) (r1 : List Int) : law06InsLong_L3 (n + 1) s9 s11 r0 r1 =
  forkB (decide (s11 < ((r1.length : Nat) : Int)))
  (if 0 ≤ s11 ∧ s11 < ((r1.length : Nat) : Int) then (law06InsLong_L3 n s9 (IntKind.i64.wrap (s11 + (8 : Int))) r0 (r1.set s11.toNat (28 : Int))) else none)
  (obind (insGet BIG r1) fun y1 =>
   forkB s9
   (forkB (y1.2 == (3 : Int))
    (law06InsLong_J4 n (((y1.1.length : Nat) : Int) == (0 : Int)))
    (law06InsLong_J4 n false))
   (forkB (y1.2 == (0 : Int))
    (some (((y1.1.length : Nat) : Int) == ((r0.length : Nat) : Int)))
    (some false))) := by kernel_rfl
theorem law06InsLong_J4_eq (n : Nat) (s4 : Bool) : law06InsLong_J4 (n + 1) s4 =
  some s4 := by kernel_rfl
noncomputable def law06InsLong_sp : FnSpec TT := ⟨[.val (.int .i64), .val (.bool)], [.val (.bool)], fun x => law06InsLong BIG x.1 x.2⟩
theorem law06InsLong_ok : FnOk TT Try.prog 5 law06InsLong_sp := fnOk_of (C := law06InsLong_C) (by kernel_rfl) law06InsLong_env Try.func5 (show Try.f5.body = some (bodyOf Try.f5) by kernel_rfl) (by kernel_rfl) (by kernel_rfl) (cuts := law06InsLong_cuts) fun x y h => ⟨BIG, h⟩
noncomputable def law06InsBack_C : Ctx TT := ⟨tyOf, [(12, law06_awake_sp.toCall), (23, insPut_sp.toCall), (25, insGet_sp.toCall), (30, kitPick_sp.toCall), (28, kitSameIns_sp.toCall), (13, insRight_sp.toCall), (27, kitSameBytes_sp.toCall)], 0, []⟩
theorem law06InsBack_env : EnvOk TT Try.prog law06InsBack_C.E := envG (fnCall_ok law06_awake_ok) (envG (fnCall_ok insPut_ok) (envG (fnCall_ok insGet_ok) (envG (fnCall_ok kitPick_ok) (envG (fnCall_ok kitSameIns_ok) (envG (fnCall_ok insRight_ok) (envG (fnCall_ok kitSameBytes_ok) (envNil)))))))
def law06InsBack_cuts : List (Pos × Cut) := [([false, true, true], ⟨[0, 1, 2, 28], [], false, []⟩), ([true, true, true, true], ⟨[1], [], false, []⟩), ([true, true, true, false, true, false, true, true, true, true], ⟨[1, 81], [], false, []⟩), ([false, true, false, true, true, true, true, true, true, true], ⟨[1, 14, 16], [], false, []⟩)]
noncomputable def law06InsBack (n : Nat) (x0 : List Ins) (x1 : List Int) (x2 : Int) : Option (Bool) := topF TT Try.prog law06InsBack_C law06InsBack_cuts Try.f6 (bodyOf Try.f6) [.val (.list (.user 0)), .val (.list (.int .u8)), .val (.int .i64)] [.val (.bool)] n (x0, x1, x2)
noncomputable def law06InsBack_J0 (n : Nat) (s0 : List Ins) (s1 : List Int) (s2 : Int) (s28 : Bool) : Option (Bool) := cutF TT Try.prog law06InsBack_C law06InsBack_cuts Try.f6 (bodyOf Try.f6) [.val (.list (.user 0)), .val (.list (.int .u8)), .val (.int .i64)] [.val (.bool)] n [false, true, true] ⟨[(0, .cell ⟨.list (.user 0), s0⟩), (1, .cell ⟨.list (.int .u8), s1⟩), (2, .cell ⟨.int .i64, s2⟩), (28, .cell ⟨.bool, s28⟩)], []⟩
noncomputable def law06InsBack_J2 (n : Nat) (s1 : List Int) (s81 : Bool) : Option (Bool) := cutF TT Try.prog law06InsBack_C law06InsBack_cuts Try.f6 (bodyOf Try.f6) [.val (.list (.user 0)), .val (.list (.int .u8)), .val (.int .i64)] [.val (.bool)] n [true, true, true, false, true, false, true, true, true, true] ⟨[(1, .cell ⟨.list (.int .u8), s1⟩), (81, .cell ⟨.bool, s81⟩)], []⟩
noncomputable def law06InsBack_J1 (n : Nat) (s1 : List Int) : Option (Bool) := cutF TT Try.prog law06InsBack_C law06InsBack_cuts Try.f6 (bodyOf Try.f6) [.val (.list (.user 0)), .val (.list (.int .u8)), .val (.int .i64)] [.val (.bool)] n [true, true, true, true] ⟨[(1, .cell ⟨.list (.int .u8), s1⟩)], []⟩
noncomputable def law06InsBack_L3 (n : Nat) (s1 : List Int) (s16 : Int) (r0 : List Ins) : Option (Bool) := cutF TT Try.prog law06InsBack_C law06InsBack_cuts Try.f6 (bodyOf Try.f6) [.val (.list (.user 0)), .val (.list (.int .u8)), .val (.int .i64)] [.val (.bool)] n [false, true, false, true, true, true, true, true, true, true] ⟨[(1, .cell ⟨.list (.int .u8), s1⟩), (14, .own 0), (16, .cell ⟨.int .i64, s16⟩)], [.row 27 (.user 0) r0]⟩
theorem law06InsBack_eq (n : Nat) (x0 : List Ins) (x1 : List Int) (x2 : Int) : law06InsBack n x0 x1 x2 =
  obind (law06_awake BIG ) fun y1 =>
  forkB (!y1)
  (some false)
  (forkB (decide (((x0.length : Nat) : Int) > (400 : Int)))
   (law06InsBack_J0 n x0 x1 x2 true)
   (law06InsBack_J0 n x0 x1 x2 (decide (((x1.length : Nat) : Int) > (4000 : Int))))) := by kernel_rfl
theorem law06InsBack_J0_eq (n : Nat) (s0 : List Ins) (s1 : List Int) (s2 : Int) (s28 : Bool) : law06InsBack_J0 (n + 1) s0 s1 s2 s28 =
  forkB s28
  (some true)
  (obind (insPut BIG s0) fun y1 =>
   forkB (y1.2 == (0 : Int))
   (obind (insGet BIG y1.1) fun y2 =>
    obind (kitPick BIG s2 (IntKind.i64.wrap (((s0.length : Nat) : Int) + (1 : Int)))) fun y3 =>
    if 0 ≤ (0 : Int) ∧ (0 : Int) ≤ IntKind.i64.wrap ((8 : Int) * y3) ∧ IntKind.i64.wrap ((8 : Int) * y3) ≤ ((y1.1.length : Nat) : Int) then (if 0 + (((IntKind.i64.wrap ((8 : Int) * y3)).toNat) - 0) ≤ y1.1.length then (obind (insGet BIG (List.take (((IntKind.i64.wrap ((8 : Int) * y3)).toNat) - 0) (List.drop 0 y1.1))) fun y4 =>
    forkB (y2.2 != (0 : Int))
    (law06InsBack_J2 n s1 true)
    (obind (kitSameIns BIG y2.1 s0) fun y5 =>
     forkB (!y5)
     (law06InsBack_J2 n s1 true)
     (forkB (y4.2 != (0 : Int))
      (law06InsBack_J2 n s1 true)
      (if 0 ≤ (0 : Int) ∧ (0 : Int) ≤ y3 ∧ y3 ≤ ((s0.length : Nat) : Int) then (obind (kitSameIns BIG y4.1 (List.take (y3.toNat - 0) (List.drop 0 s0))) fun y6 =>
       forkB (!y6)
       (law06InsBack_J2 n s1 true)
       (law06InsBack_J2 n s1 (((y1.1.length : Nat) : Int) != (IntKind.i64.wrap ((8 : Int) * ((s0.length : Nat) : Int)))))) else none)))) else none) else none)
   (law06InsBack_J1 n s1)) := by kernel_rfl
theorem law06InsBack_J2_eq (n : Nat) (s1 : List Int) (s81 : Bool) : law06InsBack_J2 (n + 1) s1 s81 =
  forkB s81
  (some false)
  (law06InsBack_J1 n s1) := by kernel_rfl
theorem law06InsBack_J1_eq (n : Nat) (s1 : List Int) : law06InsBack_J1 (n + 1) s1 =
  obind (insGet BIG s1) fun y1 =>
  forkB (y1.2 != (0 : Int))
  (some (((y1.1.length : Nat) : Int) == (0 : Int)))
  (law06InsBack_L3 n s1 (0 : Int) y1.1) := by kernel_rfl
theorem law06InsBack_L3_eq (n : Nat) (s1 : List Int) (s16 : Int) (r0 : List Ins) : law06InsBack_L3 (n + 1) s1 s16 r0 =
  forkB (decide (s16 < ((r0.length : Nat) : Int)))
  (if 0 ≤ s16 ∧ s16 < ((r0.length : Nat) : Int) then (obind (insRight BIG (r0.getD s16.toNat dIns)) fun y1 =>
   forkB (!y1)
   (some false)
   (law06InsBack_L3 n s1 (IntKind.i64.wrap (s16 + (1 : Int))) r0)) else none)
  (obind (insPut BIG r0) fun y2 =>
   forkB (y2.2 == (0 : Int))
   (obind (kitSameBytes BIG y2.1 s1) fun y3 =>
    some y3)
   (some false)) := by kernel_rfl
noncomputable def law06InsBack_sp : FnSpec TT := ⟨[.val (.list (.user 0)), .val (.list (.int .u8)), .val (.int .i64)], [.val (.bool)], fun x => law06InsBack BIG x.1 x.2.1 x.2.2⟩
theorem law06InsBack_ok : FnOk TT Try.prog 6 law06InsBack_sp := fnOk_of (C := law06InsBack_C) (by kernel_rfl) law06InsBack_env Try.func6 (show Try.f6.body = some (bodyOf Try.f6) by kernel_rfl) (by kernel_rfl) (by kernel_rfl) (cuts := law06InsBack_cuts) fun x y h => ⟨BIG, h⟩
noncomputable def law06InsEach_C : Ctx TT := ⟨tyOf, [(12, law06_awake_sp.toCall), (25, insGet_sp.toCall), (23, insPut_sp.toCall), (27, kitSameBytes_sp.toCall)], 0, []⟩
theorem law06InsEach_env : EnvOk TT Try.prog law06InsEach_C.E := envG (fnCall_ok law06_awake_ok) (envG (fnCall_ok insGet_ok) (envG (fnCall_ok insPut_ok) (envG (fnCall_ok kitSameBytes_ok) (envNil))))
def law06InsEach_cuts : List (Pos × Cut) := [([false, true, false, true, true, true], ⟨[1, 2], [], false, []⟩), ([false, true, false, false, true, false, false, true, false, true, true, true], ⟨[1, 2, 3], [], false, []⟩), ([false, true, false, false, true, false, false, true, false, false, true, false, false, true, false, true, true, true], ⟨[1, 2, 3, 4], [], false, []⟩), ([true, false, false, true, false, false, true, false, false, true, false, false, true, false, false, true, false, true, true, true], ⟨[1, 2, 3, 4], [], false, []⟩), ([true, false, false, true, false, false, true, false, false, true, false, false, true, false, false, true, false, false, true, false, true, true, true], ⟨[1, 2, 3, 4, 5], [], false, []⟩), ([true, true, false, false, true, false, false, true, false, false, true, false, false, true, false, false, true, false, false, true, false, true, true, true], ⟨[1, 2, 3, 4, 5], [], false, []⟩), ([true, true, true, true, true, true, true, false, false, true, false, false, true, false, false, true, false, false, true, false, false, true, false, false, true, false, true, true, true], ⟨[1, 2, 3, 4, 69], [], false, []⟩)]
noncomputable def law06InsEach (n : Nat)  : Option (Bool) := topF TT Try.prog law06InsEach_C law06InsEach_cuts Try.f7 (bodyOf Try.f7) [] [.val (.bool)] n ()
noncomputable def law06InsEach_L0 (n : Nat) (s1 : Int) (s2 : Int) : Option (Bool) := cutF TT Try.prog law06InsEach_C law06InsEach_cuts Try.f7 (bodyOf Try.f7) [] [.val (.bool)] n [false, true, false, true, true, true] ⟨[(1, .cell ⟨.int .i64, s1⟩), (2, .cell ⟨.int .i64, s2⟩)], []⟩
noncomputable def law06InsEach_L1 (n : Nat) (s1 : Int) (s2 : Int) (s3 : Int) : Option (Bool) := cutF TT Try.prog law06InsEach_C law06InsEach_cuts Try.f7 (bodyOf Try.f7) [] [.val (.bool)] n [false, true, false, false, true, false, false, true, false, true, true, true] ⟨[(1, .cell ⟨.int .i64, s1⟩), (2, .cell ⟨.int .i64, s2⟩), (3, .cell ⟨.int .i64, s3⟩)], []⟩
noncomputable def law06InsEach_L2 (n : Nat) (s1 : Int) (s2 : Int) (s3 : Int) (s4 : Int) : Option (Bool) := cutF TT Try.prog law06InsEach_C law06InsEach_cuts Try.f7 (bodyOf Try.f7) [] [.val (.bool)] n [false, true, false, false, true, false, false, true, false, false, true, false, false, true, false, true, true, true] ⟨[(1, .cell ⟨.int .i64, s1⟩), (2, .cell ⟨.int .i64, s2⟩), (3, .cell ⟨.int .i64, s3⟩), (4, .cell ⟨.int .i64, s4⟩)], []⟩
noncomputable def law06InsEach_J4 (n : Nat) (s1 : Int) (s2 : Int) (s3 : Int) (s4 : Int) (r0 : List Int) : Option (Bool) := cutF TT Try.prog law06InsEach_C law06InsEach_cuts Try.f7 (bodyOf Try.f7) [] [.val (.bool)] n [true, false, false, true, false, false, true, false, false, true, false, false, true, false, false, true, false, false, true, false, true, true, true] ⟨[(1, .cell ⟨.int .i64, s1⟩), (2, .cell ⟨.int .i64, s2⟩), (3, .cell ⟨.int .i64, s3⟩), (4, .cell ⟨.int .i64, s4⟩), (5, .own 0)], [.row 5 (.int .u8) r0]⟩
noncomputable def law06InsEach_J5 (n : Nat) (s1 : Int) (s2 : Int) (s3 : Int) (s4 : Int) (r0 : List Int) : Option (Bool) := cutF TT Try.prog law06InsEach_C law06InsEach_cuts Try.f7 (bodyOf Try.f7) [] [.val (.bool)] n [true, true, false, false, true, false, false, true, false, false, true, false, false, true, false, false, true, false, false, true, false, true, true, true] ⟨[(1, .cell ⟨.int .i64, s1⟩), (2, .cell ⟨.int .i64, s2⟩), (3, .cell ⟨.int .i64, s3⟩), (4, .cell ⟨.int .i64, s4⟩), (5, .own 0)], [.row 5 (.int .u8) r0]⟩
noncomputable def law06InsEach_J3 (n : Nat) (s1 : Int) (s2 : Int) (s3 : Int) (s4 : Int) : Option (Bool) := cutF TT Try.prog law06InsEach_C law06InsEach_cuts Try.f7 (bodyOf Try.f7) [] [.val (.bool)] n [true, false, false, true, false, false, true, false, false, true, false, false, true, false, false, true, false, true, true, true] ⟨[(1, .cell ⟨.int .i64, s1⟩), (2, .cell ⟨.int .i64, s2⟩), (3, .cell ⟨.int .i64, s3⟩), (4, .cell ⟨.int .i64, s4⟩)], []⟩
noncomputable def law06InsEach_J6 (n : Nat) (s1 : Int) (s2 : Int) (s3 : Int) (s4 : Int) (s69 : Bool) : Option (Bool) := cutF TT Try.prog law06InsEach_C law06InsEach_cuts Try.f7 (bodyOf Try.f7) [] [.val (.bool)] n [true, true, true, true, true, true, true, false, false, true, false, false, true, false, false, true, false, false, true, false, false, true, false, false, true, false, true, true, true] ⟨[(1, .cell ⟨.int .i64, s1⟩), (2, .cell ⟨.int .i64, s2⟩), (3, .cell ⟨.int .i64, s3⟩), (4, .cell ⟨.int .i64, s4⟩), (69, .cell ⟨.bool, s69⟩)], []⟩
theorem law06InsEach_eq (n : Nat)  : law06InsEach n  =
  obind (law06_awake BIG ) fun y1 =>
  forkB (!y1)
  (some false)
  (law06InsEach_L0 n (0 : Int) (0 : Int)) := by kernel_rfl
theorem law06InsEach_L0_eq (n : Nat) (s1 : Int) (s2 : Int) : law06InsEach_L0 (n + 1) s1 s2 =
  forkB (decide (s2 < (256 : Int)))
  (law06InsEach_L1 n s1 s2 (0 : Int))
  (some (decide (s1 > (5000 : Int)))) := by kernel_rfl
theorem law06InsEach_L1_eq (n : Nat) (s1 : Int) (s2 : Int) (s3 : Int) : law06InsEach_L1 (n + 1) s1 s2 s3 =
  forkB (decide (s3 < (256 : Int)))
  (law06InsEach_L2 n s1 s2 s3 (0 : Int))
  (law06InsEach_L0 n s1 (IntKind.i64.wrap (s2 + (1 : Int)))) := by kernel_rfl
theorem law06InsEach_L2_eq (n : Nat) (s1 : Int) (s2 : Int) (s3 : Int) (s4 : Int) : law06InsEach_L2 (n + 1) s1 s2 s3 s4 =
  forkB (decide (s4 < (4 : Int)))
  (forkB ((bAnd .i64 s4 (1 : Int)) == (1 : Int))
   (law06InsEach_J4 n s1 s2 s3 s4 ([IntKind.u8.wrap s2, IntKind.u8.wrap s3, (255 : Int), (254 : Int), (0 : Int), (0 : Int), (0 : Int), (0 : Int)] : List Int))
   (law06InsEach_J4 n s1 s2 s3 s4 ([IntKind.u8.wrap s2, IntKind.u8.wrap s3, (0 : Int), (0 : Int), (0 : Int), (0 : Int), (0 : Int), (0 : Int)] : List Int)))
  (law06InsEach_L1 n s1 s2 (IntKind.i64.wrap (s3 + (1 : Int)))) := by kernel_rfl
theorem law06InsEach_J4_eq (n : Nat) (s1 : Int) (s2 : Int) (s3 : Int) (s4 : Int) (r0 : List Int) : law06InsEach_J4 (n + 1) s1 s2 s3 s4 r0 =
  forkB ((bAnd .i64 s4 (2 : Int)) == (2 : Int))
  (if 0 ≤ (4 : Int) ∧ (4 : Int) < ((r0.length : Nat) : Int) then (if 0 ≤ (7 : Int) ∧ (7 : Int) < (((r0.set 4 (128 : Int)).length : Nat) : Int) then (law06InsEach_J5 n s1 s2 s3 s4 ((r0.set 4 (128 : Int)).set 7 (1 : Int))) else none) else none)
  (law06InsEach_J5 n s1 s2 s3 s4 r0) := by kernel_rfl
theorem law06InsEach_J5_eq (n : Nat) (s1 : Int) (s2 : Int) (s3 : Int) (s4 : Int) (r0 : List Int) : law06InsEach_J5 (n + 1) s1 s2 s3 s4 r0 =
  obind (insGet BIG r0) fun y1 =>
  forkB (y1.2 != (0 : Int))
  (law06InsEach_J3 n s1 s2 s3 s4)
  (obind (insPut BIG y1.1) fun y2 =>
   forkB (y2.2 != (0 : Int))
   (law06InsEach_J6 n (IntKind.i64.wrap (s1 + (1 : Int))) s2 s3 s4 true)
   (forkB (((y1.1.length : Nat) : Int) != (1 : Int))
    (law06InsEach_J6 n (IntKind.i64.wrap (s1 + (1 : Int))) s2 s3 s4 true)
    (obind (kitSameBytes BIG y2.1 r0) fun y3 =>
     law06InsEach_J6 n (IntKind.i64.wrap (s1 + (1 : Int))) s2 s3 s4 (!y3)))) := by kernel_rfl
theorem law06InsEach_J3_eq (n : Nat) (s1 : Int) (s2 : Int) (s3 : Int) (s4 : Int) : law06InsEach_J3 (n + 1) s1 s2 s3 s4 =
  law06InsEach_L2 n s1 s2 s3 (IntKind.i64.wrap (s4 + (1 : Int))) := by kernel_rfl
theorem law06InsEach_J6_eq (n : Nat) (s1 : Int) (s2 : Int) (s3 : Int) (s4 : Int) (s69 : Bool) : law06InsEach_J6 (n + 1) s1 s2 s3 s4 s69 =
  forkB s69
  (some false)
  (law06InsEach_J3 n s1 s2 s3 s4) := by kernel_rfl
noncomputable def law06InsEach_sp : FnSpec TT := ⟨[], [.val (.bool)], fun _ => law06InsEach BIG ⟩
theorem law06InsEach_ok : FnOk TT Try.prog 7 law06InsEach_sp := fnOk_of (C := law06InsEach_C) (by kernel_rfl) law06InsEach_env Try.func7 (show Try.f7.body = some (bodyOf Try.f7) by kernel_rfl) (by kernel_rfl) (by kernel_rfl) (cuts := law06InsEach_cuts) fun x y h => ⟨BIG, h⟩
end Go.X
