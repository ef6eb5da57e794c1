/- What functions of instructions compute. -/
import Derived.Test.YtdlmkfnjljlmgaaTb
namespace Go.X
open Go.RowKit Go.V Go.Proofs
noncomputable def kitSameInts_C : Ctx TT := ⟨tyOf, [], 0, []⟩
theorem kitSameInts_env : EnvOk TT Try.prog kitSameInts_C.E := envNil
def kitSameInts_cuts : List (Pos × Cut) := [([false, true, false, true, true], ⟨[0, 1, 5], [], false, []⟩)]
noncomputable def kitSameInts (n : Nat) (x0 : List Int) (x1 : List Int) : Option (Bool) := topF TT Try.prog kitSameInts_C kitSameInts_cuts Try.f17 (bodyOf Try.f17) [.val (.list (.int .i64)), .val (.list (.int .i64))] [.val (.bool)] n (x0, x1)
noncomputable def kitSameInts_L0 (n : Nat) (s0 : List Int) (s1 : List Int) (s5 : Int) : Option (Bool) := cutF TT Try.prog kitSameInts_C kitSameInts_cuts Try.f17 (bodyOf Try.f17) [.val (.list (.int .i64)), .val (.list (.int .i64))] [.val (.bool)] n [false, true, false, true, true] ⟨[(0, .cell ⟨.list (.int .i64), s0⟩), (1, .cell ⟨.list (.int .i64), s1⟩), (5, .cell ⟨.int .i64, s5⟩)], []⟩
theorem kitSameInts_eq (n : Nat) (x0 : List Int) (x1 : List Int) : kitSameInts n x0 x1 =
  forkB (((x0.length : Nat) : Int) != ((x1.length : Nat) : Int))
  (some false)
  (kitSameInts_L0 n x0 x1 (0 : Int)) := by kernel_rfl
theorem kitSameInts_L0_eq (n : Nat) (s0 : List Int) (s1 : List Int) (s5 : Int) : kitSameInts_L0 (n + 1) s0 s1 s5 =
  forkB (decide (s5 < ((s0.length : Nat) : Int)))
  (if 0 ≤ s5 ∧ s5 < ((s0.length : Nat) : Int) then (if 0 ≤ s5 ∧ s5 < ((s1.length : Nat) : Int) then (forkB ((s0.getD s5.toNat (0 : Int)) != (s1.getD s5.toNat (0 : Int)))
   (some false)
   (kitSameInts_L0 n s0 s1 (IntKind.i64.wrap (s5 + (1 : Int))))) else none) else none)
  (some true) := by kernel_rfl
noncomputable def kitSameInts_sp : FnSpec TT := ⟨[.val (.list (.int .i64)), .val (.list (.int .i64))], [.val (.bool)], fun x => kitSameInts BIG x.1 x.2⟩
theorem kitSameInts_ok : FnOk TT Try.prog 17 kitSameInts_sp := fnOk_of (C := kitSameInts_C) (by kernel_rfl) kitSameInts_env Try.func17 (show Try.f17.body = some (bodyOf Try.f17) by kernel_rfl) (by kernel_rfl) (by kernel_rfl) (cuts := kitSameInts_cuts) fun x y h => ⟨BIG, h⟩
noncomputable def kitSameBytes_C : Ctx TT := ⟨tyOf, [], 0, []⟩
theorem kitSameBytes_env : EnvOk TT Try.prog kitSameBytes_C.E := envNil
def kitSameBytes_cuts : List (Pos × Cut) := [([false, true, false, true, true], ⟨[0, 1, 5], [], false, []⟩)]
noncomputable def kitSameBytes (n : Nat) (x0 : List Int) (x1 : List Int) : Option (Bool) := topF TT Try.prog kitSameBytes_C kitSameBytes_cuts Try.f27 (bodyOf Try.f27) [.val (.list (.int .u8)), .val (.list (.int .u8))] [.val (.bool)] n (x0, x1)
noncomputable def kitSameBytes_L0 (n : Nat) (s0 : List Int) (s1 : List Int) (s5 : Int) : Option (Bool) := cutF TT Try.prog kitSameBytes_C kitSameBytes_cuts Try.f27 (bodyOf Try.f27) [.val (.list (.int .u8)), .val (.list (.int .u8))] [.val (.bool)] n [false, true, false, true, true] ⟨[(0, .cell ⟨.list (.int .u8), s0⟩), (1, .cell ⟨.list (.int .u8), s1⟩), (5, .cell ⟨.int .i64, s5⟩)], []⟩
theorem kitSameBytes_eq (n : Nat) (x0 : List Int) (x1 : List Int) : kitSameBytes n x0 x1 =
  forkB (((x0.length : Nat) : Int) != ((x1.length : Nat) : Int))
  (some false)
  (kitSameBytes_L0 n x0 x1 (0 : Int)) := by kernel_rfl
theorem kitSameBytes_L0_eq (n : Nat) (s0 : List Int) (s1 : List Int) (s5 : Int) : kitSameBytes_L0 (n + 1) s0 s1 s5 =
  forkB (decide (s5 < ((s0.length : Nat) : Int)))
  (if 0 ≤ s5 ∧ s5 < ((s0.length : Nat) : Int) then (if 0 ≤ s5 ∧ s5 < ((s1.length : Nat) : Int) then (forkB ((s0.getD s5.toNat (0 : Int)) != (s1.getD s5.toNat (0 : Int)))
   (some false)
   (kitSameBytes_L0 n s0 s1 (IntKind.i64.wrap (s5 + (1 : Int))))) else none) else none)
  (some true) := by kernel_rfl
noncomputable def kitSameBytes_sp : FnSpec TT := ⟨[.val (.list (.int .u8)), .val (.list (.int .u8))], [.val (.bool)], fun x => kitSameBytes BIG x.1 x.2⟩
theorem kitSameBytes_ok : FnOk TT Try.prog 27 kitSameBytes_sp := fnOk_of (C := kitSameBytes_C) (by kernel_rfl) kitSameBytes_env Try.func27 (show Try.f27.body = some (bodyOf Try.f27) by kernel_rfl) (by kernel_rfl) (by kernel_rfl) (cuts := kitSameBytes_cuts) fun x y h => ⟨BIG, h⟩
noncomputable def kitSameIns_C : Ctx TT := ⟨tyOf, [], 0, []⟩
theorem kitSameIns_env : EnvOk TT Try.prog kitSameIns_C.E := envNil
def kitSameIns_cuts : List (Pos × Cut) := [([false, true, false, true, true], ⟨[0, 1, 5], [], false, []⟩)]
noncomputable def kitSameIns (n : Nat) (x0 : List Ins) (x1 : List Ins) : Option (Bool) := topF TT Try.prog kitSameIns_C kitSameIns_cuts Try.f28 (bodyOf Try.f28) [.val (.list (.user 0)), .val (.list (.user 0))] [.val (.bool)] n (x0, x1)
noncomputable def kitSameIns_L0 (n : Nat) (s0 : List Ins) (s1 : List Ins) (s5 : Int) : Option (Bool) := cutF TT Try.prog kitSameIns_C kitSameIns_cuts Try.f28 (bodyOf Try.f28) [.val (.list (.user 0)), .val (.list (.user 0))] [.val (.bool)] n [false, true, false, true, true] ⟨[(0, .cell ⟨.list (.user 0), s0⟩), (1, .cell ⟨.list (.user 0), s1⟩), (5, .cell ⟨.int .i64, s5⟩)], []⟩
theorem kitSameIns_eq (n : Nat) (x0 : List Ins) (x1 : List Ins) : kitSameIns n x0 x1 =
  forkB (((x0.length : Nat) : Int) != ((x1.length : Nat) : Int))
  (some false)
  (kitSameIns_L0 n x0 x1 (0 : Int)) := by kernel_rfl
theorem kitSameIns_L0_eq (n : Nat) (s0 : List Ins) (s1 : List Ins) (s5 : Int) : kitSameIns_L0 (n + 1) s0 s1 s5 =
  forkB (decide (s5 < ((s0.length : Nat) : Int)))
  (if 0 ≤ s5 ∧ s5 < ((s0.length : Nat) : Int) then (if 0 ≤ s5 ∧ s5 < ((s1.length : Nat) : Int) then (forkB (!((((s0.getD s5.toNat dIns).Op) == ((s1.getD s5.toNat dIns).Op)) && ((((s0.getD s5.toNat dIns).Narrow) == ((s1.getD s5.toNat dIns).Narrow)) && ((((s0.getD s5.toNat dIns).Dst) == ((s1.getD s5.toNat dIns).Dst)) && ((((s0.getD s5.toNat dIns).Src) == ((s1.getD s5.toNat dIns).Src)) && ((((s0.getD s5.toNat dIns).UseImm) == ((s1.getD s5.toNat dIns).UseImm)) && ((((s0.getD s5.toNat dIns).Off) == ((s1.getD s5.toNat dIns).Off)) && ((((s0.getD s5.toNat dIns).Imm) == ((s1.getD s5.toNat dIns).Imm)) && (((s0.getD s5.toNat dIns).Size) == ((s1.getD s5.toNat dIns).Size))))))))))
   (some false)
   (kitSameIns_L0 n s0 s1 (IntKind.i64.wrap (s5 + (1 : Int))))) else none) else none)
  (some true) := by kernel_rfl
noncomputable def kitSameIns_sp : FnSpec TT := ⟨[.val (.list (.user 0)), .val (.list (.user 0))], [.val (.bool)], fun x => kitSameIns BIG x.1 x.2⟩
theorem kitSameIns_ok : FnOk TT Try.prog 28 kitSameIns_sp := fnOk_of (C := kitSameIns_C) (by kernel_rfl) kitSameIns_env Try.func28 (show Try.f28.body = some (bodyOf Try.f28) by kernel_rfl) (by kernel_rfl) (by kernel_rfl) (cuts := kitSameIns_cuts) fun x y h => ⟨BIG, h⟩
noncomputable def kitPick_C : Ctx TT := ⟨tyOf, [], 0, []⟩
theorem kitPick_env : EnvOk TT Try.prog kitPick_C.E := envNil
def kitPick_cuts : List (Pos × Cut) := []
noncomputable def kitPick (n : Nat) (x0 : Int) (x1 : Int) : Option (Int) := topF TT Try.prog kitPick_C kitPick_cuts Try.f30 (bodyOf Try.f30) [.val (.int .i64), .val (.int .i64)] [.val (.int .i64)] n (x0, x1)
theorem kitPick_eq (n : Nat) (x0 : Int) (x1 : Int) : kitPick n x0 x1 =
  forkB (decide (x1 < (1 : Int)))
  (some (0 : Int))
  (if x1 = 0 then none else (forkB (decide ((x0.tmod x1) < (0 : Int)))
   (some (IntKind.i64.wrap ((x0.tmod x1) + x1)))
   (some (x0.tmod x1)))) := by kernel_rfl
noncomputable def kitPick_sp : FnSpec TT := ⟨[.val (.int .i64), .val (.int .i64)], [.val (.int .i64)], fun x => kitPick BIG x.1 x.2⟩
theorem kitPick_ok : FnOk TT Try.prog 30 kitPick_sp := fnOk_of (C := kitPick_C) (by kernel_rfl) kitPick_env Try.func30 (show Try.f30.body = some (bodyOf Try.f30) by kernel_rfl) (by kernel_rfl) (by kernel_rfl) (cuts := kitPick_cuts) fun x y h => ⟨BIG, h⟩
noncomputable def ins_fields_C : Ctx TT := ⟨tyOf, [], 0, []⟩
theorem ins_fields_env : EnvOk TT Try.prog ins_fields_C.E := envNil
def ins_fields_cuts : List (Pos × Cut) := [([false, false, true], ⟨[0, 3], [], false, []⟩)]
noncomputable def ins_fields (n : Nat) (x0 : Int) : Option (Int) := topF TT Try.prog ins_fields_C ins_fields_cuts Try.f35 (bodyOf Try.f35) [.val (.int .u8)] [.val (.int .i64)] n x0
noncomputable def ins_fields_J0 (n : Nat) (s0 : Int) (s3 : Bool) : Option (Int) := cutF TT Try.prog ins_fields_C ins_fields_cuts Try.f35 (bodyOf Try.f35) [.val (.int .u8)] [.val (.int .i64)] n [false, false, true] ⟨[(0, .cell ⟨.int .u8, s0⟩), (3, .cell ⟨.bool, s3⟩)], []⟩
theorem ins_fields_eq (n : Nat) (x0 : Int) : ins_fields n x0 =
  forkB (decide (x0 ≥ (1 : Int)))
  (ins_fields_J0 n x0 (decide (x0 ≤ (12 : Int))))
  (ins_fields_J0 n x0 false) := by kernel_rfl
theorem ins_fields_J0_eq (n : Nat) (s0 : Int) (s3 : Bool) : ins_fields_J0 (n + 1) s0 s3 =
  forkB s3
  (some (201 : Int))
  (forkB (s0 == (13 : Int))
   (some (193 : Int))
   (forkB (s0 == (14 : Int))
    (some (181 : Int))
    (forkB (s0 == (15 : Int))
     (some (186 : Int))
     (forkB (s0 == (16 : Int))
      (some (144 : Int))
      (forkB (decide (s0 ≥ (17 : Int)))
       (forkB (decide (s0 ≤ (27 : Int)))
        (some (218 : Int))
        (forkB (s0 == (28 : Int))
         (some (128 : Int))
         (some (0 : Int))))
       (forkB (s0 == (28 : Int))
        (some (128 : Int))
        (some (0 : Int)))))))) := by kernel_rfl
noncomputable def ins_fields_sp : FnSpec TT := ⟨[.val (.int .u8)], [.val (.int .i64)], fun x => ins_fields BIG x⟩
theorem ins_fields_ok : FnOk TT Try.prog 35 ins_fields_sp := fnOk_of (C := ins_fields_C) (by kernel_rfl) ins_fields_env Try.func35 (show Try.f35.body = some (bodyOf Try.f35) by kernel_rfl) (by kernel_rfl) (by kernel_rfl) (cuts := ins_fields_cuts) fun x y h => ⟨BIG, h⟩
noncomputable def slicesIndex_C : Ctx TT := ⟨tyOf, [], 0, []⟩
theorem slicesIndex_env : EnvOk TT Try.prog slicesIndex_C.E := envNil
def slicesIndex_cuts : List (Pos × Cut) := [([false, true, false, true], ⟨[0, 1, 7, 8], [], false, []⟩)]
noncomputable def slicesIndex (n : Nat) (x0 : List Int) (x1 : Int) : Option (Int) := topF TT Try.prog slicesIndex_C slicesIndex_cuts Try.f60 (bodyOf Try.f60) [.val (.list (.int .i64)), .val (.int .i64)] [.val (.int .i64)] n (x0, x1)
noncomputable def slicesIndex_L0 (n : Nat) (s0 : List Int) (s1 : Int) (s7 : Int) (s8 : Int) : Option (Int) := cutF TT Try.prog slicesIndex_C slicesIndex_cuts Try.f60 (bodyOf Try.f60) [.val (.list (.int .i64)), .val (.int .i64)] [.val (.int .i64)] n [false, true, false, true] ⟨[(0, .cell ⟨.list (.int .i64), s0⟩), (1, .cell ⟨.int .i64, s1⟩), (7, .cell ⟨.int .i64, s7⟩), (8, .cell ⟨.int .i64, s8⟩)], []⟩
theorem slicesIndex_eq (n : Nat) (x0 : List Int) (x1 : Int) : slicesIndex n x0 x1 =
  slicesIndex_L0 n x0 x1 ((x0.length : Nat) : Int) (0 : Int) := by kernel_rfl
theorem slicesIndex_L0_eq (n : Nat) (s0 : List Int) (s1 : Int) (s7 : Int) (s8 : Int) : slicesIndex_L0 (n + 1) s0 s1 s7 s8 =
  forkB (decide (s8 < s7))
  (if 0 ≤ s8 ∧ s8 < ((s0.length : Nat) : Int) then (forkB (s1 == (s0.getD s8.toNat (0 : Int)))
   (some s8)
   (slicesIndex_L0 n s0 s1 s7 (IntKind.i64.wrap (s8 + (1 : Int))))) else none)
  (some (-1 : Int)) := by kernel_rfl
noncomputable def slicesIndex_sp : FnSpec TT := ⟨[.val (.list (.int .i64)), .val (.int .i64)], [.val (.int .i64)], fun x => slicesIndex BIG x.1 x.2⟩
theorem slicesIndex_ok : FnOk TT Try.prog 60 slicesIndex_sp := fnOk_of (C := slicesIndex_C) (by kernel_rfl) slicesIndex_env Try.func60 (show Try.f60.body = some (bodyOf Try.f60) by kernel_rfl) (by kernel_rfl) (by kernel_rfl) (cuts := slicesIndex_cuts) fun x y h => ⟨BIG, h⟩
noncomputable def slicesContains_C : Ctx TT := ⟨tyOf, [(60, slicesIndex_sp.toCall)], 0, []⟩
theorem slicesContains_env : EnvOk TT Try.prog slicesContains_C.E := envG (fnCall_ok slicesIndex_ok) (envNil)
def slicesContains_cuts : List (Pos × Cut) := []
noncomputable def slicesContains (n : Nat) (x0 : List Int) (x1 : Int) : Option (Bool) := topF TT Try.prog slicesContains_C slicesContains_cuts Try.f36 (bodyOf Try.f36) [.val (.list (.int .i64)), .val (.int .i64)] [.val (.bool)] n (x0, x1)
theorem slicesContains_eq (n : Nat) (x0 : List Int) (x1 : Int) : slicesContains n x0 x1 =
  obind (slicesIndex BIG x0 x1) fun y1 =>
  some (decide (y1 ≥ (0 : Int))) := by kernel_rfl
noncomputable def slicesContains_sp : FnSpec TT := ⟨[.val (.list (.int .i64)), .val (.int .i64)], [.val (.bool)], fun x => slicesContains BIG x.1 x.2⟩
theorem slicesContains_ok : FnOk TT Try.prog 36 slicesContains_sp := fnOk_of (C := slicesContains_C) (by kernel_rfl) slicesContains_env Try.func36 (show Try.f36.body = some (bodyOf Try.f36) by kernel_rfl) (by kernel_rfl) (by kernel_rfl) (cuts := slicesContains_cuts) fun x y h => ⟨BIG, h⟩
noncomputable def ins_within_C : Ctx TT := ⟨tyOf, [], 0, []⟩
theorem ins_within_env : EnvOk TT Try.prog ins_within_C.E := envNil
def ins_within_cuts : List (Pos × Cut) := []
noncomputable def ins_within (n : Nat) (x0 : Int) (x1 : Int) (x2 : Int) : Option (Bool) := topF TT Try.prog ins_within_C ins_within_cuts Try.f37 (bodyOf Try.f37) [.val (.int .i64), .val (.int .i64), .val (.int .i64)] [.val (.bool)] n (x0, x1, x2)
theorem ins_within_eq (n : Nat) (x0 : Int) (x1 : Int) (x2 : Int) : ins_within n x0 x1 x2 =
  forkB (decide (x0 ≥ x1))
  (some (decide (x0 ≤ x2)))
  (some false) := by kernel_rfl
noncomputable def ins_within_sp : FnSpec TT := ⟨[.val (.int .i64), .val (.int .i64), .val (.int .i64)], [.val (.bool)], fun x => ins_within BIG x.1 x.2.1 x.2.2⟩
theorem ins_within_ok : FnOk TT Try.prog 37 ins_within_sp := fnOk_of (C := ins_within_C) (by kernel_rfl) ins_within_env Try.func37 (show Try.f37.body = some (bodyOf Try.f37) by kernel_rfl) (by kernel_rfl) (by kernel_rfl) (cuts := ins_within_cuts) fun x y h => ⟨BIG, h⟩
noncomputable def insRight_C : Ctx TT := ⟨tyOf, [(35, ins_fields_sp.toCall), (36, slicesContains_sp.toCall), (37, ins_within_sp.toCall)], 0, [(8, 0)]⟩
theorem insRight_env : EnvOk TT Try.prog insRight_C.E := envG (fnCall_ok ins_fields_ok) (envG (fnCall_ok slicesContains_ok) (envG (fnCall_ok ins_within_ok) (envNil)))
def insRight_cuts : List (Pos × Cut) := [([true, true, true], ⟨[1, 3, 4], [], false, []⟩), ([true, true, true, true], ⟨[1, 3, 4], [], false, []⟩), ([false, true, true, true, true], ⟨[1, 3, 4, 31], [], false, []⟩), ([true, true, true, true, true], ⟨[1, 3, 4], [], false, []⟩), ([false, true, true, true, true, true], ⟨[1, 3, 4, 41], [], false, []⟩), ([true, true, true, true, true, true], ⟨[1, 3, 4], [], false, []⟩), ([true, true, true, true, true, true, true], ⟨[1, 3, 4], [], false, []⟩), ([true, true, true, true, true, true, true, true], ⟨[1, 3, 4], [], false, []⟩), ([true, true, true, true, true, true, true, true, true, true], ⟨[1, 3, 4, 5], [], false, []⟩), ([true, true, true, true, true, true, true, true, true, true, true], ⟨[1, 3, 4, 5, 6], [], false, []⟩)]
noncomputable def insRight (n : Nat) (x0 : Ins) : Option (Bool) := topF TT Try.prog insRight_C insRight_cuts Try.f13 (bodyOf Try.f13) [.val (.user 0)] [.val (.bool)] n x0
noncomputable def insRight_J0 (n : Nat) (s3 : Int) (b0_0 : Int) (b0_1 : Bool) (b0_2 : Int) (b0_3 : Int) (b0_4 : Bool) (b0_5 : Int) (b0_6 : Int) (b0_7 : Int) (b1_0 : Int) (b1_1 : Bool) (b1_2 : Int) (b1_3 : Int) (b1_4 : Bool) (b1_5 : Int) (b1_6 : Int) (b1_7 : Int) : Option (Bool) := cutF TT Try.prog insRight_C insRight_cuts Try.f13 (bodyOf Try.f13) [.val (.user 0)] [.val (.bool)] n [true, true, true] ⟨[(1, .ptr 0 0), (3, .cell ⟨.int .i64, s3⟩), (4, .ptr 1 0)], [.blk 27 [.cell ⟨.int .u8, b0_0⟩, .cell ⟨.bool, b0_1⟩, .cell ⟨.int .i64, b0_2⟩, .cell ⟨.int .i64, b0_3⟩, .cell ⟨.bool, b0_4⟩, .cell ⟨.int .i64, b0_5⟩, .cell ⟨.int .i64, b0_6⟩, .cell ⟨.int .i64, b0_7⟩], .blk 27 [.cell ⟨.int .u8, b1_0⟩, .cell ⟨.bool, b1_1⟩, .cell ⟨.int .i64, b1_2⟩, .cell ⟨.int .i64, b1_3⟩, .cell ⟨.bool, b1_4⟩, .cell ⟨.int .i64, b1_5⟩, .cell ⟨.int .i64, b1_6⟩, .cell ⟨.int .i64, b1_7⟩]]⟩
noncomputable def insRight_J2 (n : Nat) (s3 : Int) (s31 : Bool) (b0_0 : Int) (b0_1 : Bool) (b0_2 : Int) (b0_3 : Int) (b0_4 : Bool) (b0_5 : Int) (b0_6 : Int) (b0_7 : Int) (b1_0 : Int) (b1_1 : Bool) (b1_2 : Int) (b1_3 : Int) (b1_4 : Bool) (b1_5 : Int) (b1_6 : Int) (b1_7 : Int) : Option (Bool) := cutF TT Try.prog insRight_C insRight_cuts Try.f13 (bodyOf Try.f13) [.val (.user 0)] [.val (.bool)] n [false, true, true, true, true] ⟨[(1, .ptr 0 0), (3, .cell ⟨.int .i64, s3⟩), (4, .ptr 1 0), (31, .cell ⟨.bool, s31⟩)], [.blk 27 [.cell ⟨.int .u8, b0_0⟩, .cell ⟨.bool, b0_1⟩, .cell ⟨.int .i64, b0_2⟩, .cell ⟨.int .i64, b0_3⟩, .cell ⟨.bool, b0_4⟩, .cell ⟨.int .i64, b0_5⟩, .cell ⟨.int .i64, b0_6⟩, .cell ⟨.int .i64, b0_7⟩], .blk 27 [.cell ⟨.int .u8, b1_0⟩, .cell ⟨.bool, b1_1⟩, .cell ⟨.int .i64, b1_2⟩, .cell ⟨.int .i64, b1_3⟩, .cell ⟨.bool, b1_4⟩, .cell ⟨.int .i64, b1_5⟩, .cell ⟨.int .i64, b1_6⟩, .cell ⟨.int .i64, b1_7⟩]]⟩
noncomputable def insRight_J1 (n : Nat) (s3 : Int) (b0_0 : Int) (b0_1 : Bool) (b0_2 : Int) (b0_3 : Int) (b0_4 : Bool) (b0_5 : Int) (b0_6 : Int) (b0_7 : Int) (b1_0 : Int) (b1_1 : Bool) (b1_2 : Int) (b1_3 : Int) (b1_4 : Bool) (b1_5 : Int) (b1_6 : Int) (b1_7 : Int) : Option (Bool) := cutF TT Try.prog insRight_C insRight_cuts Try.f13 (bodyOf Try.f13) [.val (.user 0)] [.val (.bool)] n [true, true, true, true] ⟨[(1, .ptr 0 0), (3, .cell ⟨.int .i64, s3⟩), (4, .ptr 1 0)], [.blk 27 [.cell ⟨.int .u8, b0_0⟩, .cell ⟨.bool, b0_1⟩, .cell ⟨.int .i64, b0_2⟩, .cell ⟨.int .i64, b0_3⟩, .cell ⟨.bool, b0_4⟩, .cell ⟨.int .i64, b0_5⟩, .cell ⟨.int .i64, b0_6⟩, .cell ⟨.int .i64, b0_7⟩], .blk 27 [.cell ⟨.int .u8, b1_0⟩, .cell ⟨.bool, b1_1⟩, .cell ⟨.int .i64, b1_2⟩, .cell ⟨.int .i64, b1_3⟩, .cell ⟨.bool, b1_4⟩, .cell ⟨.int .i64, b1_5⟩, .cell ⟨.int .i64, b1_6⟩, .cell ⟨.int .i64, b1_7⟩]]⟩
noncomputable def insRight_J4 (n : Nat) (s3 : Int) (s41 : Bool) (b0_0 : Int) (b0_1 : Bool) (b0_2 : Int) (b0_3 : Int) (b0_4 : Bool) (b0_5 : Int) (b0_6 : Int) (b0_7 : Int) (b1_0 : Int) (b1_1 : Bool) (b1_2 : Int) (b1_3 : Int) (b1_4 : Bool) (b1_5 : Int) (b1_6 : Int) (b1_7 : Int) : Option (Bool) := cutF TT Try.prog insRight_C insRight_cuts Try.f13 (bodyOf Try.f13) [.val (.user 0)] [.val (.bool)] n [false, true, true, true, true, true] ⟨[(1, .ptr 0 0), (3, .cell ⟨.int .i64, s3⟩), (4, .ptr 1 0), (41, .cell ⟨.bool, s41⟩)], [.blk 27 [.cell ⟨.int .u8, b0_0⟩, .cell ⟨.bool, b0_1⟩, .cell ⟨.int .i64, b0_2⟩, .cell ⟨.int .i64, b0_3⟩, .cell ⟨.bool, b0_4⟩, .cell ⟨.int .i64, b0_5⟩, .cell ⟨.int .i64, b0_6⟩, .cell ⟨.int .i64, b0_7⟩], .blk 27 [.cell ⟨.int .u8, b1_0⟩, .cell ⟨.bool, b1_1⟩, .cell ⟨.int .i64, b1_2⟩, .cell ⟨.int .i64, b1_3⟩, .cell ⟨.bool, b1_4⟩, .cell ⟨.int .i64, b1_5⟩, .cell ⟨.int .i64, b1_6⟩, .cell ⟨.int .i64, b1_7⟩]]⟩
noncomputable def insRight_J3 (n : Nat) (s3 : Int) (b0_0 : Int) (b0_1 : Bool) (b0_2 : Int) (b0_3 : Int) (b0_4 : Bool) (b0_5 : Int) (b0_6 : Int) (b0_7 : Int) (b1_0 : Int) (b1_1 : Bool) (b1_2 : Int) (b1_3 : Int) (b1_4 : Bool) (b1_5 : Int) (b1_6 : Int) (b1_7 : Int) : Option (Bool) := cutF TT Try.prog insRight_C insRight_cuts Try.f13 (bodyOf Try.f13) [.val (.user 0)] [.val (.bool)] n [true, true, true, true, true] ⟨[(1, .ptr 0 0), (3, .cell ⟨.int .i64, s3⟩), (4, .ptr 1 0)], [.blk 27 [.cell ⟨.int .u8, b0_0⟩, .cell ⟨.bool, b0_1⟩, .cell ⟨.int .i64, b0_2⟩, .cell ⟨.int .i64, b0_3⟩, .cell ⟨.bool, b0_4⟩, .cell ⟨.int .i64, b0_5⟩, .cell ⟨.int .i64, b0_6⟩, .cell ⟨.int .i64, b0_7⟩], .blk 27 [.cell ⟨.int .u8, b1_0⟩, .cell ⟨.bool, b1_1⟩, .cell ⟨.int .i64, b1_2⟩, .cell ⟨.int .i64, b1_3⟩, .cell ⟨.bool, b1_4⟩, .cell ⟨.int .i64, b1_5⟩, .cell ⟨.int .i64, b1_6⟩, .cell ⟨.int .i64, b1_7⟩]]⟩
noncomputable def insRight_J5 (n : Nat) (s3 : Int) (b0_0 : Int) (b0_1 : Bool) (b0_2 : Int) (b0_3 : Int) (b0_4 : Bool) (b0_5 : Int) (b0_6 : Int) (b0_7 : Int) (b1_0 : Int) (b1_1 : Bool) (b1_2 : Int) (b1_3 : Int) (b1_4 : Bool) (b1_5 : Int) (b1_6 : Int) (b1_7 : Int) : Option (Bool) := cutF TT Try.prog insRight_C insRight_cuts Try.f13 (bodyOf Try.f13) [.val (.user 0)] [.val (.bool)] n [true, true, true, true, true, true] ⟨[(1, .ptr 0 0), (3, .cell ⟨.int .i64, s3⟩), (4, .ptr 1 0)], [.blk 27 [.cell ⟨.int .u8, b0_0⟩, .cell ⟨.bool, b0_1⟩, .cell ⟨.int .i64, b0_2⟩, .cell ⟨.int .i64, b0_3⟩, .cell ⟨.bool, b0_4⟩, .cell ⟨.int .i64, b0_5⟩, .cell ⟨.int .i64, b0_6⟩, .cell ⟨.int .i64, b0_7⟩], .blk 27 [.cell ⟨.int .u8, b1_0⟩, .cell ⟨.bool, b1_1⟩, .cell ⟨.int .i64, b1_2⟩, .cell ⟨.int .i64, b1_3⟩, .cell ⟨.bool, b1_4⟩, .cell ⟨.int .i64, b1_5⟩, .cell ⟨.int .i64, b1_6⟩, .cell ⟨.int .i64, b1_7⟩]]⟩
noncomputable def insRight_J6 (n : Nat) (s3 : Int) (b0_0 : Int) (b0_1 : Bool) (b0_2 : Int) (b0_3 : Int) (b0_4 : Bool) (b0_5 : Int) (b0_6 : Int) (b0_7 : Int) (b1_0 : Int) (b1_1 : Bool) (b1_2 : Int) (b1_3 : Int) (b1_4 : Bool) (b1_5 : Int) (b1_6 : Int) (b1_7 : Int) : Option (Bool) := cutF TT Try.prog insRight_C insRight_cuts Try.f13 (bodyOf Try.f13) [.val (.user 0)] [.val (.bool)] n [true, true, true, true, true, true, true] ⟨[(1, .ptr 0 0), (3, .cell ⟨.int .i64, s3⟩), (4, .ptr 1 0)], [.blk 27 [.cell ⟨.int .u8, b0_0⟩, .cell ⟨.bool, b0_1⟩, .cell ⟨.int .i64, b0_2⟩, .cell ⟨.int .i64, b0_3⟩, .cell ⟨.bool, b0_4⟩, .cell ⟨.int .i64, b0_5⟩, .cell ⟨.int .i64, b0_6⟩, .cell ⟨.int .i64, b0_7⟩], .blk 27 [.cell ⟨.int .u8, b1_0⟩, .cell ⟨.bool, b1_1⟩, .cell ⟨.int .i64, b1_2⟩, .cell ⟨.int .i64, b1_3⟩, .cell ⟨.bool, b1_4⟩, .cell ⟨.int .i64, b1_5⟩, .cell ⟨.int .i64, b1_6⟩, .cell ⟨.int .i64, b1_7⟩]]⟩
noncomputable def insRight_J7 (n : Nat) (s3 : Int) (b0_0 : Int) (b0_1 : Bool) (b0_2 : Int) (b0_3 : Int) (b0_4 : Bool) (b0_5 : Int) (b0_6 : Int) (b0_7 : Int) (b1_0 : Int) (b1_1 : Bool) (b1_2 : Int) (b1_3 : Int) (b1_4 : Bool) (b1_5 : Int) (b1_6 : Int) (b1_7 : Int) : Option (Bool) := cutF TT Try.prog insRight_C insRight_cuts Try.f13 (bodyOf Try.f13) [.val (.user 0)] [.val (.bool)] n [true, true, true, true, true, true, true, true] ⟨[(1, .ptr 0 0), (3, .cell ⟨.int .i64, s3⟩), (4, .ptr 1 0)], [.blk 27 [.cell ⟨.int .u8, b0_0⟩, .cell ⟨.bool, b0_1⟩, .cell ⟨.int .i64, b0_2⟩, .cell ⟨.int .i64, b0_3⟩, .cell ⟨.bool, b0_4⟩, .cell ⟨.int .i64, b0_5⟩, .cell ⟨.int .i64, b0_6⟩, .cell ⟨.int .i64, b0_7⟩], .blk 27 [.cell ⟨.int .u8, b1_0⟩, .cell ⟨.bool, b1_1⟩, .cell ⟨.int .i64, b1_2⟩, .cell ⟨.int .i64, b1_3⟩, .cell ⟨.bool, b1_4⟩, .cell ⟨.int .i64, b1_5⟩, .cell ⟨.int .i64, b1_6⟩, .cell ⟨.int .i64, b1_7⟩]]⟩
noncomputable def insRight_J8 (n : Nat) (s3 : Int) (s5 : Int) (b0_0 : Int) (b0_1 : Bool) (b0_2 : Int) (b0_3 : Int) (b0_4 : Bool) (b0_5 : Int) (b0_6 : Int) (b0_7 : Int) (b1_0 : Int) (b1_1 : Bool) (b1_2 : Int) (b1_3 : Int) (b1_4 : Bool) (b1_5 : Int) (b1_6 : Int) (b1_7 : Int) : Option (Bool) := cutF TT Try.prog insRight_C insRight_cuts Try.f13 (bodyOf Try.f13) [.val (.user 0)] [.val (.bool)] n [true, true, true, true, true, true, true, true, true, true] ⟨[(1, .ptr 0 0), (3, .cell ⟨.int .i64, s3⟩), (4, .ptr 1 0), (5, .cell ⟨.int .i64, s5⟩)], [.blk 27 [.cell ⟨.int .u8, b0_0⟩, .cell ⟨.bool, b0_1⟩, .cell ⟨.int .i64, b0_2⟩, .cell ⟨.int .i64, b0_3⟩, .cell ⟨.bool, b0_4⟩, .cell ⟨.int .i64, b0_5⟩, .cell ⟨.int .i64, b0_6⟩, .cell ⟨.int .i64, b0_7⟩], .blk 27 [.cell ⟨.int .u8, b1_0⟩, .cell ⟨.bool, b1_1⟩, .cell ⟨.int .i64, b1_2⟩, .cell ⟨.int .i64, b1_3⟩, .cell ⟨.bool, b1_4⟩, .cell ⟨.int .i64, b1_5⟩, .cell ⟨.int .i64, b1_6⟩, .cell ⟨.int .i64, b1_7⟩]]⟩
noncomputable def insRight_J9 (n : Nat) (s3 : Int) (s5 : Int) (s6 : Bool) (b0_0 : Int) (b0_1 : Bool) (b0_2 : Int) (b0_3 : Int) (b0_4 : Bool) (b0_5 : Int) (b0_6 : Int) (b0_7 : Int) (b1_0 : Int) (b1_1 : Bool) (b1_2 : Int) (b1_3 : Int) (b1_4 : Bool) (b1_5 : Int) (b1_6 : Int) (b1_7 : Int) : Option (Bool) := cutF TT Try.prog insRight_C insRight_cuts Try.f13 (bodyOf Try.f13) [.val (.user 0)] [.val (.bool)] n [true, true, true, true, true, true, true, true, true, true, true] ⟨[(1, .ptr 0 0), (3, .cell ⟨.int .i64, s3⟩), (4, .ptr 1 0), (5, .cell ⟨.int .i64, s5⟩), (6, .cell ⟨.bool, s6⟩)], [.blk 27 [.cell ⟨.int .u8, b0_0⟩, .cell ⟨.bool, b0_1⟩, .cell ⟨.int .i64, b0_2⟩, .cell ⟨.int .i64, b0_3⟩, .cell ⟨.bool, b0_4⟩, .cell ⟨.int .i64, b0_5⟩, .cell ⟨.int .i64, b0_6⟩, .cell ⟨.int .i64, b0_7⟩], .blk 27 [.cell ⟨.int .u8, b1_0⟩, .cell ⟨.bool, b1_1⟩, .cell ⟨.int .i64, b1_2⟩, .cell ⟨.int .i64, b1_3⟩, .cell ⟨.bool, b1_4⟩, .cell ⟨.int .i64, b1_5⟩, .cell ⟨.int .i64, b1_6⟩, .cell ⟨.int .i64, b1_7⟩]]⟩
theorem insRight_eq (n : Nat) (x0 : Ins) : insRight n x0 =
  obind (ins_fields BIG x0.Op) fun y1 =>
  forkB ((bAnd .i64 y1 (3 : Int)) != (0 : Int))
  (insRight_J0 n y1 x0.Op x0.Narrow x0.Dst x0.Src x0.UseImm x0.Off x0.Imm x0.Size x0.Op false x0.Dst (0 : Int) false (0 : Int) (0 : Int) (0 : Int))
  (insRight_J0 n y1 x0.Op x0.Narrow x0.Dst x0.Src x0.UseImm x0.Off x0.Imm x0.Size x0.Op false (0 : Int) (0 : Int) false (0 : Int) (0 : Int) (0 : Int)) := by kernel_rfl
theorem insRight_J0_eq (n : Nat) (s3 : Int) (b0_0 : Int) (b0_1 : Bool) (b0_2 : Int) (b0_3 : Int) (b0_4 : Bool) (b0_5 : Int) (b0_6 : Int) (b0_7 : Int) (b1_0 : Int) (b1_1 : Bool) (b1_2 : Int) (b1_3 : Int) (b1_4 : Bool) (b1_5 : Int) (b1_6 : Int) (b1_7 : Int) : insRight_J0 (n + 1) s3 b0_0 b0_1 b0_2 b0_3 b0_4 b0_5 b0_6 b0_7 b1_0 b1_1 b1_2 b1_3 b1_4 b1_5 b1_6 b1_7 =
  forkB ((bAnd .i64 s3 (4 : Int)) != (0 : Int))
  (insRight_J2 n s3 true b0_0 b0_1 b0_2 b0_3 b0_4 b0_5 b0_6 b0_7 b1_0 b1_1 b1_2 b1_3 b1_4 b1_5 b1_6 b1_7)
  (forkB ((bAnd .i64 s3 (8 : Int)) != (0 : Int))
   (insRight_J2 n s3 (!b0_4) b0_0 b0_1 b0_2 b0_3 b0_4 b0_5 b0_6 b0_7 b1_0 b1_1 b1_2 b1_3 b1_4 b1_5 b1_6 b1_7)
   (insRight_J2 n s3 false b0_0 b0_1 b0_2 b0_3 b0_4 b0_5 b0_6 b0_7 b1_0 b1_1 b1_2 b1_3 b1_4 b1_5 b1_6 b1_7)) := by kernel_rfl
theorem insRight_J2_eq (n : Nat) (s3 : Int) (s31 : Bool) (b0_0 : Int) (b0_1 : Bool) (b0_2 : Int) (b0_3 : Int) (b0_4 : Bool) (b0_5 : Int) (b0_6 : Int) (b0_7 : Int) (b1_0 : Int) (b1_1 : Bool) (b1_2 : Int) (b1_3 : Int) (b1_4 : Bool) (b1_5 : Int) (b1_6 : Int) (b1_7 : Int) : insRight_J2 (n + 1) s3 s31 b0_0 b0_1 b0_2 b0_3 b0_4 b0_5 b0_6 b0_7 b1_0 b1_1 b1_2 b1_3 b1_4 b1_5 b1_6 b1_7 =
  forkB s31
  (insRight_J1 n s3 b0_0 b0_1 b0_2 b0_3 b0_4 b0_5 b0_6 b0_7 b1_0 b1_1 b1_2 b0_3 b1_4 b1_5 b1_6 b1_7)
  (insRight_J1 n s3 b0_0 b0_1 b0_2 b0_3 b0_4 b0_5 b0_6 b0_7 b1_0 b1_1 b1_2 b1_3 b1_4 b1_5 b1_6 b1_7) := by kernel_rfl
theorem insRight_J1_eq (n : Nat) (s3 : Int) (b0_0 : Int) (b0_1 : Bool) (b0_2 : Int) (b0_3 : Int) (b0_4 : Bool) (b0_5 : Int) (b0_6 : Int) (b0_7 : Int) (b1_0 : Int) (b1_1 : Bool) (b1_2 : Int) (b1_3 : Int) (b1_4 : Bool) (b1_5 : Int) (b1_6 : Int) (b1_7 : Int) : insRight_J1 (n + 1) s3 b0_0 b0_1 b0_2 b0_3 b0_4 b0_5 b0_6 b0_7 b1_0 b1_1 b1_2 b1_3 b1_4 b1_5 b1_6 b1_7 =
  forkB ((bAnd .i64 s3 (8 : Int)) != (0 : Int))
  (insRight_J4 n s3 b0_4 b0_0 b0_1 b0_2 b0_3 b0_4 b0_5 b0_6 b0_7 b1_0 b1_1 b1_2 b1_3 b1_4 b1_5 b1_6 b1_7)
  (insRight_J4 n s3 false b0_0 b0_1 b0_2 b0_3 b0_4 b0_5 b0_6 b0_7 b1_0 b1_1 b1_2 b1_3 b1_4 b1_5 b1_6 b1_7) := by kernel_rfl
theorem insRight_J4_eq (n : Nat) (s3 : Int) (s41 : Bool) (b0_0 : Int) (b0_1 : Bool) (b0_2 : Int) (b0_3 : Int) (b0_4 : Bool) (b0_5 : Int) (b0_6 : Int) (b0_7 : Int) (b1_0 : Int) (b1_1 : Bool) (b1_2 : Int) (b1_3 : Int) (b1_4 : Bool) (b1_5 : Int) (b1_6 : Int) (b1_7 : Int) : insRight_J4 (n + 1) s3 s41 b0_0 b0_1 b0_2 b0_3 b0_4 b0_5 b0_6 b0_7 b1_0 b1_1 b1_2 b1_3 b1_4 b1_5 b1_6 b1_7 =
  forkB s41
  (insRight_J3 n s3 b0_0 b0_1 b0_2 b0_3 b0_4 b0_5 b0_6 b0_7 b1_0 b1_1 b1_2 b1_3 true b1_5 b0_6 b1_7)
  (insRight_J3 n s3 b0_0 b0_1 b0_2 b0_3 b0_4 b0_5 b0_6 b0_7 b1_0 b1_1 b1_2 b1_3 b1_4 b1_5 b1_6 b1_7) := by kernel_rfl
theorem insRight_J3_eq (n : Nat) (s3 : Int) (b0_0 : Int) (b0_1 : Bool) (b0_2 : Int) (b0_3 : Int) (b0_4 : Bool) (b0_5 : Int) (b0_6 : Int) (b0_7 : Int) (b1_0 : Int) (b1_1 : Bool) (b1_2 : Int) (b1_3 : Int) (b1_4 : Bool) (b1_5 : Int) (b1_6 : Int) (b1_7 : Int) : insRight_J3 (n + 1) s3 b0_0 b0_1 b0_2 b0_3 b0_4 b0_5 b0_6 b0_7 b1_0 b1_1 b1_2 b1_3 b1_4 b1_5 b1_6 b1_7 =
  forkB ((bAnd .i64 s3 (16 : Int)) != (0 : Int))
  (insRight_J5 n s3 b0_0 b0_1 b0_2 b0_3 b0_4 b0_5 b0_6 b0_7 b1_0 b1_1 b1_2 b1_3 b1_4 b0_5 b1_6 b1_7)
  (insRight_J5 n s3 b0_0 b0_1 b0_2 b0_3 b0_4 b0_5 b0_6 b0_7 b1_0 b1_1 b1_2 b1_3 b1_4 b1_5 b1_6 b1_7) := by kernel_rfl
theorem insRight_J5_eq (n : Nat) (s3 : Int) (b0_0 : Int) (b0_1 : Bool) (b0_2 : Int) (b0_3 : Int) (b0_4 : Bool) (b0_5 : Int) (b0_6 : Int) (b0_7 : Int) (b1_0 : Int) (b1_1 : Bool) (b1_2 : Int) (b1_3 : Int) (b1_4 : Bool) (b1_5 : Int) (b1_6 : Int) (b1_7 : Int) : insRight_J5 (n + 1) s3 b0_0 b0_1 b0_2 b0_3 b0_4 b0_5 b0_6 b0_7 b1_0 b1_1 b1_2 b1_3 b1_4 b1_5 b1_6 b1_7 =
  forkB ((bAnd .i64 s3 (32 : Int)) != (0 : Int))
  (insRight_J6 n s3 b0_0 b0_1 b0_2 b0_3 b0_4 b0_5 b0_6 b0_7 b1_0 b1_1 b1_2 b1_3 b1_4 b1_5 b1_6 b0_7)
  (insRight_J6 n s3 b0_0 b0_1 b0_2 b0_3 b0_4 b0_5 b0_6 b0_7 b1_0 b1_1 b1_2 b1_3 b1_4 b1_5 b1_6 b1_7) := by kernel_rfl
theorem insRight_J6_eq (n : Nat) (s3 : Int) (b0_0 : Int) (b0_1 : Bool) (b0_2 : Int) (b0_3 : Int) (b0_4 : Bool) (b0_5 : Int) (b0_6 : Int) (b0_7 : Int) (b1_0 : Int) (b1_1 : Bool) (b1_2 : Int) (b1_3 : Int) (b1_4 : Bool) (b1_5 : Int) (b1_6 : Int) (b1_7 : Int) : insRight_J6 (n + 1) s3 b0_0 b0_1 b0_2 b0_3 b0_4 b0_5 b0_6 b0_7 b1_0 b1_1 b1_2 b1_3 b1_4 b1_5 b1_6 b1_7 =
  forkB ((bAnd .i64 s3 (64 : Int)) != (0 : Int))
  (insRight_J7 n s3 b0_0 b0_1 b0_2 b0_3 b0_4 b0_5 b0_6 b0_7 b1_0 b0_1 b1_2 b1_3 b1_4 b1_5 b1_6 b1_7)
  (insRight_J7 n s3 b0_0 b0_1 b0_2 b0_3 b0_4 b0_5 b0_6 b0_7 b1_0 b1_1 b1_2 b1_3 b1_4 b1_5 b1_6 b1_7) := by kernel_rfl
theorem insRight_J7_eq (n : Nat) (s3 : Int) (b0_0 : Int) (b0_1 : Bool) (b0_2 : Int) (b0_3 : Int) (b0_4 : Bool) (b0_5 : Int) (b0_6 : Int) (b0_7 : Int) (b1_0 : Int) (b1_1 : Bool) (b1_2 : Int) (b1_3 : Int) (b1_4 : Bool) (b1_5 : Int) (b1_6 : Int) (b1_7 : Int) : insRight_J7 (n + 1) s3 b0_0 b0_1 b0_2 b0_3 b0_4 b0_5 b0_6 b0_7 b1_0 b1_1 b1_2 b1_3 b1_4 b1_5 b1_6 b1_7 =
  forkB ((bAnd .i64 s3 (1 : Int)) != (0 : Int))
  (insRight_J8 n s3 (9 : Int) b0_0 b0_1 b0_2 b0_3 b0_4 b0_5 b0_6 b0_7 b1_0 b1_1 b1_2 b1_3 b1_4 b1_5 b1_6 b1_7)
  (insRight_J8 n s3 (10 : Int) b0_0 b0_1 b0_2 b0_3 b0_4 b0_5 b0_6 b0_7 b1_0 b1_1 b1_2 b1_3 b1_4 b1_5 b1_6 b1_7) := by kernel_rfl
theorem insRight_J8_eq (n : Nat) (s3 : Int) (s5 : Int) (b0_0 : Int) (b0_1 : Bool) (b0_2 : Int) (b0_3 : Int) (b0_4 : Bool) (b0_5 : Int) (b0_6 : Int) (b0_7 : Int) (b1_0 : Int) (b1_1 : Bool) (b1_2 : Int) (b1_3 : Int) (b1_4 : Bool) (b1_5 : Int) (b1_6 : Int) (b1_7 : Int) : insRight_J8 (n + 1) s3 s5 b0_0 b0_1 b0_2 b0_3 b0_4 b0_5 b0_6 b0_7 b1_0 b1_1 b1_2 b1_3 b1_4 b1_5 b1_6 b1_7 =
  forkB ((bAnd .i64 s3 (32 : Int)) == (0 : Int))
  (insRight_J9 n s3 s5 true b0_0 b0_1 b0_2 b0_3 b0_4 b0_5 b0_6 b0_7 b1_0 b1_1 b1_2 b1_3 b1_4 b1_5 b1_6 b1_7)
  (obind (slicesContains BIG ([(1 : Int), (2 : Int), (4 : Int), (8 : Int)] : List Int) b0_7) fun y1 =>
   insRight_J9 n s3 s5 y1 b0_0 b0_1 b0_2 b0_3 b0_4 b0_5 b0_6 b0_7 b1_0 b1_1 b1_2 b1_3 b1_4 b1_5 b1_6 b1_7) := by kernel_rfl
theorem insRight_J9_eq (n : Nat) (s3 : Int) (s5 : Int) (s6 : Bool) (b0_0 : Int) (b0_1 : Bool) (b0_2 : Int) (b0_3 : Int) (b0_4 : Bool) (b0_5 : Int) (b0_6 : Int) (b0_7 : Int) (b1_0 : Int) (b1_1 : Bool) (b1_2 : Int) (b1_3 : Int) (b1_4 : Bool) (b1_5 : Int) (b1_6 : Int) (b1_7 : Int) : insRight_J9 (n + 1) s3 s5 s6 b0_0 b0_1 b0_2 b0_3 b0_4 b0_5 b0_6 b0_7 b1_0 b1_1 b1_2 b1_3 b1_4 b1_5 b1_6 b1_7 =
  forkB (s3 != (0 : Int))
  (forkB ((b0_0 == b1_0) && ((b0_1 == b1_1) && ((b0_2 == b1_2) && ((b0_3 == b1_3) && ((b0_4 == b1_4) && ((b0_5 == b1_5) && ((b0_6 == b1_6) && (b0_7 == b1_7))))))))
   (obind (ins_within BIG b0_2 (0 : Int) s5) fun y1 =>
    forkB y1
    (obind (ins_within BIG b0_3 (0 : Int) (10 : Int)) fun y2 =>
     forkB y2
     (obind (ins_within BIG b0_5 (-32768 : Int) (32767 : Int)) fun y3 =>
      forkB y3
      (obind (ins_within BIG b0_6 (-2147483648 : Int) (2147483647 : Int)) fun y4 =>
       forkB y4
       (some s6)
       (some false))
      (some false))
     (some false))
    (some false))
   (some false))
  (some false) := by kernel_rfl
noncomputable def insRight_sp : FnSpec TT := ⟨[.val (.user 0)], [.val (.bool)], fun x => insRight BIG x⟩
theorem insRight_ok : FnOk TT Try.prog 13 insRight_sp := fnOk_of (C := insRight_C) (by kernel_rfl) insRight_env Try.func13 (show Try.f13.body = some (bodyOf Try.f13) by kernel_rfl) (by kernel_rfl) (by kernel_rfl) (cuts := insRight_cuts) fun x y h => ⟨BIG, h⟩
noncomputable def ins_up_C : Ctx TT := ⟨tyOf, [(60, slicesIndex_sp.toCall)], 0, []⟩
theorem ins_up_env : EnvOk TT Try.prog ins_up_C.E := envG (fnCall_ok slicesIndex_ok) (envNil)
def ins_up_cuts : List (Pos × Cut) := []
noncomputable def ins_up (n : Nat) (x0 : Ins) : Option (Int) := topF TT Try.prog ins_up_C ins_up_cuts Try.f64 (bodyOf Try.f64) [.val (.user 0)] [.val (.int .i64)] n x0
theorem ins_up_eq (n : Nat) (x0 : Ins) : ins_up n x0 =
  forkB x0.Narrow
  (some (1 : Int))
  (obind (slicesIndex BIG ([(1 : Int), (2 : Int), (4 : Int), (8 : Int)] : List Int) x0.Size) fun y1 =>
   some (gMax y1 (0 : Int))) := by kernel_rfl
noncomputable def ins_up_sp : FnSpec TT := ⟨[.val (.user 0)], [.val (.int .i64)], fun x => ins_up BIG x⟩
theorem ins_up_ok : FnOk TT Try.prog 64 ins_up_sp := fnOk_of (C := ins_up_C) (by kernel_rfl) ins_up_env Try.func64 (show Try.f64.body = some (bodyOf Try.f64) by kernel_rfl) (by kernel_rfl) (by kernel_rfl) (cuts := ins_up_cuts) fun x y h => ⟨BIG, h⟩
noncomputable def ins_put_C : Ctx TT := ⟨tyOf, [(64, ins_up_sp.toCall)], 0, []⟩
theorem ins_put_env : EnvOk TT Try.prog ins_put_C.E := envG (fnCall_ok ins_up_ok) (envNil)
def ins_put_cuts : List (Pos × Cut) := [([true, true], ⟨[1, 3], [], false, []⟩)]
noncomputable def ins_put (n : Nat) (x0 : Ins) : Option (List Int) := topF TT Try.prog ins_put_C ins_put_cuts Try.f48 (bodyOf Try.f48) [.val (.user 0)] [.own 5 (.int .u8)] n x0
noncomputable def ins_put_J0 (n : Nat) (s3 : Int) (b0_0 : Int) (b0_1 : Bool) (b0_2 : Int) (b0_3 : Int) (b0_4 : Bool) (b0_5 : Int) (b0_6 : Int) (b0_7 : Int) : Option (List Int) := cutF TT Try.prog ins_put_C ins_put_cuts Try.f48 (bodyOf Try.f48) [.val (.user 0)] [.own 5 (.int .u8)] n [true, true] ⟨[(1, .ptr 0 0), (3, .cell ⟨.int .u8, s3⟩)], [.blk 27 [.cell ⟨.int .u8, b0_0⟩, .cell ⟨.bool, b0_1⟩, .cell ⟨.int .i64, b0_2⟩, .cell ⟨.int .i64, b0_3⟩, .cell ⟨.bool, b0_4⟩, .cell ⟨.int .i64, b0_5⟩, .cell ⟨.int .i64, b0_6⟩, .cell ⟨.int .i64, b0_7⟩]]⟩
theorem ins_put_eq (n : Nat) (x0 : Ins) : ins_put n x0 =
  obind (ins_up BIG x0) fun y1 =>
  forkB x0.UseImm
  (ins_put_J0 n (bOr .u8 (bOr .u8 x0.Op (sShl .u8 (IntKind.u8.wrap y1) (6 : Int))) (32 : Int)) x0.Op x0.Narrow x0.Dst x0.Src x0.UseImm x0.Off x0.Imm x0.Size)
  (ins_put_J0 n (bOr .u8 x0.Op (sShl .u8 (IntKind.u8.wrap y1) (6 : Int))) x0.Op x0.Narrow x0.Dst x0.Src x0.UseImm x0.Off x0.Imm x0.Size) := by kernel_rfl
theorem ins_put_J0_eq (n : Nat) (s3 : Int) (b0_0 : Int) (b0_1 : Bool) (b0_2 : Int) (b0_3 : Int) (b0_4 : Bool) (b0_5 : Int) (b0_6 : Int) (b0_7 : Int) : ins_put_J0 (n + 1) s3 b0_0 b0_1 b0_2 b0_3 b0_4 b0_5 b0_6 b0_7 =
  some ([s3, IntKind.u8.wrap (bOr .i64 (sShl .i64 b0_2 (4 : Int)) b0_3), IntKind.u8.wrap (sShr .u16 (IntKind.u16.wrap b0_5) (8 : Int)), IntKind.u8.wrap (IntKind.u16.wrap b0_5), IntKind.u8.wrap (sShr .u32 (IntKind.u32.wrap b0_6) (24 : Int)), IntKind.u8.wrap (sShr .u32 (IntKind.u32.wrap b0_6) (16 : Int)), IntKind.u8.wrap (sShr .u32 (IntKind.u32.wrap b0_6) (8 : Int)), IntKind.u8.wrap (IntKind.u32.wrap b0_6)] : List Int) := by kernel_rfl
noncomputable def ins_put_sp : FnSpec TT := ⟨[.val (.user 0)], [.own 5 (.int .u8)], fun x => ins_put BIG x⟩
theorem ins_put_ok : FnOk TT Try.prog 48 ins_put_sp := fnOk_of (C := ins_put_C) (by kernel_rfl) ins_put_env Try.func48 (show Try.f48.body = some (bodyOf Try.f48) by kernel_rfl) (by kernel_rfl) (by kernel_rfl) (cuts := ins_put_cuts) fun x y h => ⟨BIG, h⟩
noncomputable def insPut_C : Ctx TT := ⟨tyOf, [(13, insRight_sp.toCall), (48, ins_put_sp.toCall)], 0, []⟩
theorem insPut_env : EnvOk TT Try.prog insPut_C.E := envG (fnCall_ok insRight_ok) (envG (fnCall_ok ins_put_ok) (envNil))
def insPut_cuts : List (Pos × Cut) := [([false, true, false, true, true, true], ⟨[4, 10, 11, 12], [(4, 5, .int .u8)], false, []⟩)]
noncomputable def insPut (n : Nat) (x0 : List Ins) : Option (List Int × Int) := topF TT Try.prog insPut_C insPut_cuts Try.f23 (bodyOf Try.f23) [.val (.list (.user 0))] [.own 5 (.int .u8), .val (.int .i64)] n x0
noncomputable def insPut_L0 (n : Nat) (s10 : List Ins) (s11 : Int) (s12 : Int) (r0 : List Int) : Option (List Int × Int) := cutF TT Try.prog insPut_C insPut_cuts Try.f23 (bodyOf Try.f23) [.val (.list (.user 0))] [.own 5 (.int .u8), .val (.int .i64)] n [false, true, false, true, true, true] ⟨[(4, .own 0), (10, .cell ⟨.list (.user 0), s10⟩), (11, .cell ⟨.int .i64, s11⟩), (12, .cell ⟨.int .i64, s12⟩)], [.row 5 (.int .u8) r0]⟩
theorem insPut_eq (n : Nat) (x0 : List Ins) : insPut n x0 =
  forkB (decide (((x0.length : Nat) : Int) > (4096 : Int)))
  (some (([] : List Int), (3 : Int)))
  (insPut_L0 n x0 ((x0.length : Nat) : Int) (0 : Int) ([] : List Int)) := by kernel_rfl
theorem insPut_L0_eq (n : Nat) (s10 : List Ins) (s11 : Int) (s12 : Int) (r0 : List Int) : insPut_L0 (n + 1) s10 s11 s12 r0 =
  forkB (decide (s12 < s11))
  (if 0 ≤ s12 ∧ s12 < ((s10.length : Nat) : Int) then (obind (insRight BIG (s10.getD s12.toNat dIns)) fun y1 =>
   forkB (!y1)
   (some (([] : List Int), (4 : Int)))
   (obind (ins_put BIG (s10.getD s12.toNat dIns)) fun y2 =>
    if (r0.length + y2.length) * 1 ≤ 140737488355328 then (insPut_L0 n s10 s11 (IntKind.i64.wrap (s12 + (1 : Int))) (r0 ++ y2)) else none)) else none)
  (some (r0, (0 : Int))) := by kernel_rfl
noncomputable def insPut_sp : FnSpec TT := ⟨[.val (.list (.user 0))], [.own 5 (.int .u8), .val (.int .i64)], fun x => insPut BIG x⟩
theorem insPut_ok : FnOk TT Try.prog 23 insPut_sp := fnOk_of (C := insPut_C) (by kernel_rfl) insPut_env Try.func23 (show Try.f23.body = some (bodyOf Try.f23) by kernel_rfl) (by kernel_rfl) (by kernel_rfl) (cuts := insPut_cuts) fun x y h => ⟨BIG, h⟩
noncomputable def ins_get_C : Ctx TT := ⟨tyOf, [(35, ins_fields_sp.toCall)], 0, [(1, 0), (2, 0), (3, 0)]⟩
theorem ins_get_env : EnvOk TT Try.prog ins_get_C.E := envG (fnCall_ok ins_fields_ok) (envNil)
def ins_get_cuts : List (Pos × Cut) := []
noncomputable def ins_get (n : Nat) (x0 : List Int) : Option (Ins) := topF TT Try.prog ins_get_C ins_get_cuts Try.f50 (bodyOf Try.f50) [.val (.list (.int .u8))] [.val (.user 0)] n x0
theorem ins_get_eq (n : Nat) (x0 : List Int) : ins_get n x0 =
  if 0 ≤ (0 : Int) ∧ (0 : Int) < ((x0.length : Nat) : Int) then (if 0 ≤ (0 : Int) ∧ (0 : Int) < ((x0.length : Nat) : Int) then (if 0 ≤ (1 : Int) ∧ (1 : Int) < ((x0.length : Nat) : Int) then (if 0 ≤ (1 : Int) ∧ (1 : Int) < ((x0.length : Nat) : Int) then (if 0 ≤ (2 : Int) ∧ (2 : Int) < ((x0.length : Nat) : Int) then (if 0 ≤ (3 : Int) ∧ (3 : Int) < ((x0.length : Nat) : Int) then (if 0 ≤ (4 : Int) ∧ (4 : Int) < ((x0.length : Nat) : Int) then (if 0 ≤ (5 : Int) ∧ (5 : Int) < ((x0.length : Nat) : Int) then (if 0 ≤ (6 : Int) ∧ (6 : Int) < ((x0.length : Nat) : Int) then (if 0 ≤ (7 : Int) ∧ (7 : Int) < ((x0.length : Nat) : Int) then (obind (ins_fields BIG (bAnd .u8 (x0.getD 0 (0 : Int)) (31 : Int))) fun y1 =>
  forkB ((bAnd .i64 y1 (32 : Int)) != (0 : Int))
  (if 0 ≤ (0 : Int) ∧ (0 : Int) < ((x0.length : Nat) : Int) then (if sShr .u8 (x0.getD 0 (0 : Int)) (6 : Int) < 0 then none else (some (⟨bAnd .u8 (x0.getD 0 (0 : Int)) (31 : Int), false, IntKind.i64.wrap (sShr .u8 (x0.getD 1 (0 : Int)) (4 : Int)), IntKind.i64.wrap (bAnd .u8 (x0.getD 1 (0 : Int)) (15 : Int)), (bAnd .u8 (sShr .u8 (x0.getD 0 (0 : Int)) (5 : Int)) (1 : Int)) == (1 : Int), IntKind.i64.wrap (bOr .i16 (sShl .i16 (IntKind.i16.wrap (x0.getD 2 (0 : Int))) (8 : Int)) (IntKind.i16.wrap (x0.getD 3 (0 : Int)))), IntKind.i64.wrap (bOr .i32 (bOr .i32 (bOr .i32 (sShl .i32 (IntKind.i32.wrap (x0.getD 4 (0 : Int))) (24 : Int)) (sShl .i32 (IntKind.i32.wrap (x0.getD 5 (0 : Int))) (16 : Int))) (sShl .i32 (IntKind.i32.wrap (x0.getD 6 (0 : Int))) (8 : Int))) (IntKind.i32.wrap (x0.getD 7 (0 : Int)))), sShl .i64 (1 : Int) (sShr .u8 (x0.getD 0 (0 : Int)) (6 : Int))⟩ : Ins))) else none)
  (if 0 ≤ (0 : Int) ∧ (0 : Int) < ((x0.length : Nat) : Int) then (some (⟨bAnd .u8 (x0.getD 0 (0 : Int)) (31 : Int), (sShr .u8 (x0.getD 0 (0 : Int)) (6 : Int)) == (1 : Int), IntKind.i64.wrap (sShr .u8 (x0.getD 1 (0 : Int)) (4 : Int)), IntKind.i64.wrap (bAnd .u8 (x0.getD 1 (0 : Int)) (15 : Int)), (bAnd .u8 (sShr .u8 (x0.getD 0 (0 : Int)) (5 : Int)) (1 : Int)) == (1 : Int), IntKind.i64.wrap (bOr .i16 (sShl .i16 (IntKind.i16.wrap (x0.getD 2 (0 : Int))) (8 : Int)) (IntKind.i16.wrap (x0.getD 3 (0 : Int)))), IntKind.i64.wrap (bOr .i32 (bOr .i32 (bOr .i32 (sShl .i32 (IntKind.i32.wrap (x0.getD 4 (0 : Int))) (24 : Int)) (sShl .i32 (IntKind.i32.wrap (x0.getD 5 (0 : Int))) (16 : Int))) (sShl .i32 (IntKind.i32.wrap (x0.getD 6 (0 : Int))) (8 : Int))) (IntKind.i32.wrap (x0.getD 7 (0 : Int)))), (0 : Int)⟩ : Ins)) else none)) else none) else none) else none) else none) else none) else none) else none) else none) else none) else none := by kernel_rfl
noncomputable def ins_get_sp : FnSpec TT := ⟨[.val (.list (.int .u8))], [.val (.user 0)], fun x => ins_get BIG x⟩
theorem ins_get_ok : FnOk TT Try.prog 50 ins_get_sp := fnOk_of (C := ins_get_C) (by kernel_rfl) ins_get_env Try.func50 (show Try.f50.body = some (bodyOf Try.f50) by kernel_rfl) (by kernel_rfl) (by kernel_rfl) (cuts := ins_get_cuts) fun x y h => ⟨BIG, h⟩
noncomputable def slicesEqual_C : Ctx TT := ⟨tyOf, [], 0, []⟩
theorem slicesEqual_env : EnvOk TT Try.prog slicesEqual_C.E := envNil
def slicesEqual_cuts : List (Pos × Cut) := [([false, true, false, true, true], ⟨[0, 1, 12, 13], [], false, []⟩)]
noncomputable def slicesEqual (n : Nat) (x0 : List Int) (x1 : List Int) : Option (Bool) := topF TT Try.prog slicesEqual_C slicesEqual_cuts Try.f51 (bodyOf Try.f51) [.val (.list (.int .u8)), .val (.list (.int .u8))] [.val (.bool)] n (x0, x1)
noncomputable def slicesEqual_L0 (n : Nat) (s0 : List Int) (s1 : List Int) (s12 : Int) (s13 : Int) : Option (Bool) := cutF TT Try.prog slicesEqual_C slicesEqual_cuts Try.f51 (bodyOf Try.f51) [.val (.list (.int .u8)), .val (.list (.int .u8))] [.val (.bool)] n [false, true, false, true, true] ⟨[(0, .cell ⟨.list (.int .u8), s0⟩), (1, .cell ⟨.list (.int .u8), s1⟩), (12, .cell ⟨.int .i64, s12⟩), (13, .cell ⟨.int .i64, s13⟩)], []⟩
theorem slicesEqual_eq (n : Nat) (x0 : List Int) (x1 : List Int) : slicesEqual n x0 x1 =
  forkB (((x0.length : Nat) : Int) != ((x1.length : Nat) : Int))
  (some false)
  (slicesEqual_L0 n x0 x1 ((x0.length : Nat) : Int) (0 : Int)) := by kernel_rfl
theorem slicesEqual_L0_eq (n : Nat) (s0 : List Int) (s1 : List Int) (s12 : Int) (s13 : Int) : slicesEqual_L0 (n + 1) s0 s1 s12 s13 =
  forkB (decide (s13 < s12))
  (if 0 ≤ s13 ∧ s13 < ((s0.length : Nat) : Int) then (if 0 ≤ s13 ∧ s13 < ((s1.length : Nat) : Int) then (forkB ((s0.getD s13.toNat (0 : Int)) != (s1.getD s13.toNat (0 : Int)))
   (some false)
   (slicesEqual_L0 n s0 s1 s12 (IntKind.i64.wrap (s13 + (1 : Int))))) else none) else none)
  (some true) := by kernel_rfl
noncomputable def slicesEqual_sp : FnSpec TT := ⟨[.val (.list (.int .u8)), .val (.list (.int .u8))], [.val (.bool)], fun x => slicesEqual BIG x.1 x.2⟩
theorem slicesEqual_ok : FnOk TT Try.prog 51 slicesEqual_sp := fnOk_of (C := slicesEqual_C) (by kernel_rfl) slicesEqual_env Try.func51 (show Try.f51.body = some (bodyOf Try.f51) by kernel_rfl) (by kernel_rfl) (by kernel_rfl) (cuts := slicesEqual_cuts) fun x y h => ⟨BIG, h⟩
noncomputable def insGet_C : Ctx TT := ⟨tyOf, [(50, ins_get_sp.toCall), (13, insRight_sp.toCall), (48, ins_put_sp.toCall), (51, slicesEqual_sp.toCall)], 0, [(9, 0)]⟩
theorem insGet_env : EnvOk TT Try.prog insGet_C.E := envG (fnCall_ok ins_get_ok) (envG (fnCall_ok insRight_ok) (envG (fnCall_ok ins_put_ok) (envG (fnCall_ok slicesEqual_ok) (envNil))))
def insGet_cuts : List (Pos × Cut) := [([false, false, true, true, true], ⟨[0, 4], [(4, 27, .user 0)], false, []⟩), ([false, true, false, false, true, false, false, false, true, true, true], ⟨[0, 4, 5, 33], [], false, []⟩)]
noncomputable def insGet (n : Nat) (x0 : List Int) : Option (List Ins × Int) := topF TT Try.prog insGet_C insGet_cuts Try.f25 (bodyOf Try.f25) [.val (.list (.int .u8))] [.own 27 (.user 0), .val (.int .i64)] n x0
noncomputable def insGet_L0 (n : Nat) (s0 : List Int) (r0 : List Ins) : Option (List Ins × Int) := cutF TT Try.prog insGet_C insGet_cuts Try.f25 (bodyOf Try.f25) [.val (.list (.int .u8))] [.own 27 (.user 0), .val (.int .i64)] n [false, false, true, true, true] ⟨[(0, .cell ⟨.list (.int .u8), s0⟩), (4, .own 0)], [.row 27 (.user 0) r0]⟩
noncomputable def insGet_J1 (n : Nat) (s0 : List Int) (s33 : Bool) (r0 : List Ins) (b1_0 : Int) (b1_1 : Bool) (b1_2 : Int) (b1_3 : Int) (b1_4 : Bool) (b1_5 : Int) (b1_6 : Int) (b1_7 : Int) : Option (List Ins × Int) := cutF TT Try.prog insGet_C insGet_cuts Try.f25 (bodyOf Try.f25) [.val (.list (.int .u8))] [.own 27 (.user 0), .val (.int .i64)] n [false, true, false, false, true, false, false, false, true, true, true] ⟨[(0, .cell ⟨.list (.int .u8), s0⟩), (4, .own 0), (5, .ptr 1 0), (33, .cell ⟨.bool, s33⟩)], [.row 27 (.user 0) r0, .blk 27 [.cell ⟨.int .u8, b1_0⟩, .cell ⟨.bool, b1_1⟩, .cell ⟨.int .i64, b1_2⟩, .cell ⟨.int .i64, b1_3⟩, .cell ⟨.bool, b1_4⟩, .cell ⟨.int .i64, b1_5⟩, .cell ⟨.int .i64, b1_6⟩, .cell ⟨.int .i64, b1_7⟩]]⟩
theorem insGet_eq (n : Nat) (x0 : List Int) : insGet n x0 =
  forkB (decide (((x0.length : Nat) : Int) > (32768 : Int)))
  (some (([] : List Ins), (3 : Int)))
  (forkB ((((x0.length : Nat) : Int).tmod (8 : Int)) != (0 : Int))
   (some (([] : List Ins), (4 : Int)))
   (insGet_L0 n x0 ([] : List Ins))) := by kernel_rfl
theorem insGet_L0_eq (n : Nat) (s0 : List Int) (r0 : List Ins) : insGet_L0 (n + 1) s0 r0 =
  forkB (decide (((s0.length : Nat) : Int) > (0 : Int)))
  (if 0 ≤ (0 : Int) ∧ (0 : Int) ≤ (8 : Int) ∧ (8 : Int) ≤ ((s0.length : Nat) : Int) then (obind (ins_get BIG (List.take 8 (List.drop 0 s0))) fun y1 =>
   obind (insRight BIG y1) fun y2 =>
   forkB (!y2)
   (insGet_J1 n s0 true r0 y1.Op y1.Narrow y1.Dst y1.Src y1.UseImm y1.Off y1.Imm y1.Size)
   (obind (ins_put BIG y1) fun y3 =>
    if 0 ≤ (0 : Int) ∧ (0 : Int) ≤ (8 : Int) ∧ (8 : Int) ≤ ((s0.length : Nat) : Int) then (obind (slicesEqual BIG y3 (List.take 8 (List.drop 0 s0))) fun y4 =>
    insGet_J1 n s0 (!y4) r0 y1.Op y1.Narrow y1.Dst y1.Src y1.UseImm y1.Off y1.Imm y1.Size) else none)) else none)
  (some (r0, (0 : Int))) := by kernel_rfl
theorem insGet_J1_eq (n : Nat) (s0 : List Int) (s33 : Bool) (r0 : List Ins) (b1_0 : Int) (b1_1 : Bool) (b1_2 : Int) (b1_3 : Int) (b1_4 : Bool) (b1_5 : Int) (b1_6 : Int) (b1_7 : Int) : insGet_J1 (n + 1) s0 s33 r0 b1_0 b1_1 b1_2 b1_3 b1_4 b1_5 b1_6 b1_7 =
  forkB s33
  (some (([] : List Ins), (4 : Int)))
  (if (r0.length + 1) * 56 ≤ 140737488355328 then (if 0 ≤ (8 : Int) ∧ (8 : Int) ≤ ((s0.length : Nat) : Int) ∧ ((s0.length : Nat) : Int) ≤ ((s0.length : Nat) : Int) then (insGet_L0 n (List.take ((((s0.length : Nat) : Int).toNat) - 8) (List.drop 8 s0)) (r0 ++ ([(⟨b1_0, b1_1, b1_2, b1_3, b1_4, b1_5, b1_6, b1_7⟩ : Ins)] : List Ins))) else none) else none) := by kernel_rfl
noncomputable def insGet_sp : FnSpec TT := ⟨[.val (.list (.int .u8))], [.own 27 (.user 0), .val (.int .i64)], fun x => insGet BIG x⟩
theorem insGet_ok : FnOk TT Try.prog 25 insGet_sp := fnOk_of (C := insGet_C) (by kernel_rfl) insGet_env Try.func25 (show Try.f25.body = some (bodyOf Try.f25) by kernel_rfl) (by kernel_rfl) (by kernel_rfl) (cuts := insGet_cuts) fun x y h => ⟨BIG, h⟩
noncomputable def insJumps_C : Ctx TT := ⟨tyOf, [], 0, []⟩
theorem insJumps_env : EnvOk TT Try.prog insJumps_C.E := envNil
def insJumps_cuts : List (Pos × Cut) := []
noncomputable def insJumps (n : Nat) (x0 : Ins) : Option (Bool) := topF TT Try.prog insJumps_C insJumps_cuts Try.f15 (bodyOf Try.f15) [.val (.user 0)] [.val (.bool)] n x0
theorem insJumps_eq (n : Nat) (x0 : Ins) : insJumps n x0 =
  forkB (decide (x0.Op ≥ (16 : Int)))
  (some (decide (x0.Op ≤ (27 : Int))))
  (some false) := by kernel_rfl
noncomputable def insJumps_sp : FnSpec TT := ⟨[.val (.user 0)], [.val (.bool)], fun x => insJumps BIG x⟩
theorem insJumps_ok : FnOk TT Try.prog 15 insJumps_sp := fnOk_of (C := insJumps_C) (by kernel_rfl) insJumps_env Try.func15 (show Try.f15.body = some (bodyOf Try.f15) by kernel_rfl) (by kernel_rfl) (by kernel_rfl) (cuts := insJumps_cuts) fun x y h => ⟨BIG, h⟩
end Go.X
