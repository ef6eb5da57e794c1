/- The law RegistryRight. -/
import Derived.Test.YthlhbjahlanneaaGreatIb
namespace Go.X
open Go.RowKit Go.V Go.Proofs
noncomputable def registry_rises_C : Ctx TT := ⟨tyOf, [(28, registry_within_sp.toCall)], 0, [], layOf⟩
theorem registry_rises_env : EnvOk TT Tryz.prog registry_rises_C.E := envG (fnCall_ok registry_within_ok) (envNil)
def registry_rises_cuts : List (Pos × Cut) := [([false, true, false, true], ⟨[0, 1, 7, 8, 9], [], false, []⟩), ([true, false, false, true, true, false, false, true, false, true], ⟨[0, 1, 7, 8, 9, 30], [], false, []⟩)]
noncomputable def registry_rises (n : Nat) (x0 : Int) (x1 : List Int) : Option (Bool) := topF TT Tryz.prog registry_rises_C registry_rises_cuts Tryz.f54 (bodyOf Tryz.f54) ⟨[], []⟩ [.val (.int .i64), .val (.list (.int .i64))] [.val (.bool)] n (x0, x1)
noncomputable def registry_rises_L0 (n : Nat) (s0 : Int) (s1 : List Int) (s7 : List Int) (s8 : Int) (s9 : Int) : Option (Bool) := cutF TT Tryz.prog registry_rises_C registry_rises_cuts Tryz.f54 (bodyOf Tryz.f54) ⟨[], []⟩ [.val (.int .i64), .val (.list (.int .i64))] [.val (.bool)] n [false, true, false, true] ⟨[(0, .cell ⟨.int .i64, s0⟩), (1, .cell ⟨.list (.int .i64), s1⟩), (7, .cell ⟨.list (.int .i64), s7⟩), (8, .cell ⟨.int .i64, s8⟩), (9, .cell ⟨.int .i64, s9⟩)], []⟩
noncomputable def registry_rises_J1 (n : Nat) (s0 : Int) (s1 : List Int) (s7 : List Int) (s8 : Int) (s9 : Int) (s30 : Bool) : Option (Bool) := cutF TT Tryz.prog registry_rises_C registry_rises_cuts Tryz.f54 (bodyOf Tryz.f54) ⟨[], []⟩ [.val (.int .i64), .val (.list (.int .i64))] [.val (.bool)] n [true, false, false, true, true, false, false, true, false, true] ⟨[(0, .cell ⟨.int .i64, s0⟩), (1, .cell ⟨.list (.int .i64), s1⟩), (7, .cell ⟨.list (.int .i64), s7⟩), (8, .cell ⟨.int .i64, s8⟩), (9, .cell ⟨.int .i64, s9⟩), (30, .cell ⟨.bool, s30⟩)], []⟩
theorem registry_rises_eq (n : Nat) (x0 : Int) (x1 : List Int) : registry_rises n x0 x1 =
  registry_rises_L0 n x0 x1 x1 ((x1.length : Nat) : Int) (0 : Int) := by kernel_rfl
theorem registry_rises_L0_eq (n : Nat) (s0 : Int) (s1 : List Int) (s7 : List Int) (s8 : Int) (s9 : Int) : registry_rises_L0 (n + 1) s0 s1 s7 s8 s9 =
  forkB (decide (s9 < s8))
  (if 0 ≤ s9 ∧ s9 < ((s7.length : Nat) : Int) then (obind (registry_within BIG (s7.getD s9.toNat (0 : Int)) s0) fun y1 =>
   forkB (!y1)
   (registry_rises_J1 n s0 s1 s7 s8 s9 true)
   (forkB (decide (s9 > (0 : Int)))
    (if 0 ≤ IntKind.i64.wrap (s9 - (1 : Int)) ∧ IntKind.i64.wrap (s9 - (1 : Int)) < ((s1.length : Nat) : Int) then (registry_rises_J1 n s0 s1 s7 s8 s9 (decide ((s1.getD ((IntKind.i64.wrap (s9 - (1 : Int))).toNat) (0 : Int)) ≥ (s7.getD s9.toNat (0 : Int))))) else none)
    (registry_rises_J1 n s0 s1 s7 s8 s9 false))) else none)
  (some true) := by kernel_rfl
theorem registry_rises_J1_eq (n : Nat) (s0 : Int) (s1 : List Int) (s7 : List Int) (s8 : Int) (s9 : Int) (s30 : Bool) : registry_rises_J1 (n + 1) s0 s1 s7 s8 s9 s30 =
  forkB s30
  (some false)
  (registry_rises_L0 n s0 s1 s7 s8 (IntKind.i64.wrap (s9 + (1 : Int)))) := by kernel_rfl
noncomputable def registry_rises_sp : FnSpec TT := ⟨[.val (.int .i64), .val (.list (.int .i64))], [.val (.bool)], fun x => registry_rises BIG x.1 x.2⟩
theorem registry_rises_ok : FnOk TT Tryz.prog 54 registry_rises_sp := fnOk_of (C := registry_rises_C) (by kernel_rfl) registry_rises_env Tryz.func54 (show Tryz.f54.body = some (bodyOf Tryz.f54) by kernel_rfl) (by kernel_rfl) (by kernel_rfl) (cuts := registry_rises_cuts) fun x y h => ⟨BIG, h⟩
noncomputable def slicesIndex_C : Ctx TT := ⟨tyOf, [], 0, [], layOf⟩
theorem slicesIndex_env : EnvOk TT Tryz.prog slicesIndex_C.E := envNil
def slicesIndex_cuts : List (Pos × Cut) := [([false, true, false, true], ⟨[0, 1, 7, 8], [], false, []⟩)]
noncomputable def slicesIndex (n : Nat) (x0 : List Int) (x1 : Int) : Option (Int) := topF TT Tryz.prog slicesIndex_C slicesIndex_cuts Tryz.f95 (bodyOf Tryz.f95) ⟨[], []⟩ [.val (.list (.int .i64)), .val (.int .i64)] [.val (.int .i64)] n (x0, x1)
noncomputable def slicesIndex_L0 (n : Nat) (s0 : List Int) (s1 : Int) (s7 : Int) (s8 : Int) : Option (Int) := cutF TT Tryz.prog slicesIndex_C slicesIndex_cuts Tryz.f95 (bodyOf Tryz.f95) ⟨[], []⟩ [.val (.list (.int .i64)), .val (.int .i64)] [.val (.int .i64)] n [false, true, false, true] ⟨[(0, .cell ⟨.list (.int .i64), s0⟩), (1, .cell ⟨.int .i64, s1⟩), (7, .cell ⟨.int .i64, s7⟩), (8, .cell ⟨.int .i64, s8⟩)], []⟩
theorem slicesIndex_eq (n : Nat) (x0 : List Int) (x1 : Int) : slicesIndex n x0 x1 =
  slicesIndex_L0 n x0 x1 ((x0.length : Nat) : Int) (0 : Int) := by kernel_rfl
theorem slicesIndex_L0_eq (n : Nat) (s0 : List Int) (s1 : Int) (s7 : Int) (s8 : Int) : slicesIndex_L0 (n + 1) s0 s1 s7 s8 =
  forkB (decide (s8 < s7))
  (if 0 ≤ s8 ∧ s8 < ((s0.length : Nat) : Int) then (forkB (s1 == (s0.getD s8.toNat (0 : Int)))
   (some s8)
   (slicesIndex_L0 n s0 s1 s7 (IntKind.i64.wrap (s8 + (1 : Int))))) else none)
  (some (-1 : Int)) := by kernel_rfl
noncomputable def slicesIndex_sp : FnSpec TT := ⟨[.val (.list (.int .i64)), .val (.int .i64)], [.val (.int .i64)], fun x => slicesIndex BIG x.1 x.2⟩
theorem slicesIndex_ok : FnOk TT Tryz.prog 95 slicesIndex_sp := fnOk_of (C := slicesIndex_C) (by kernel_rfl) slicesIndex_env Tryz.func95 (show Tryz.f95.body = some (bodyOf Tryz.f95) by kernel_rfl) (by kernel_rfl) (by kernel_rfl) (cuts := slicesIndex_cuts) fun x y h => ⟨BIG, h⟩
noncomputable def slicesContains_C : Ctx TT := ⟨tyOf, [(95, slicesIndex_sp.toCall)], 0, [], layOf⟩
theorem slicesContains_env : EnvOk TT Tryz.prog slicesContains_C.E := envG (fnCall_ok slicesIndex_ok) (envNil)
def slicesContains_cuts : List (Pos × Cut) := []
noncomputable def slicesContains (n : Nat) (x0 : List Int) (x1 : Int) : Option (Bool) := topF TT Tryz.prog slicesContains_C slicesContains_cuts Tryz.f53 (bodyOf Tryz.f53) ⟨[], []⟩ [.val (.list (.int .i64)), .val (.int .i64)] [.val (.bool)] n (x0, x1)
theorem slicesContains_eq (n : Nat) (x0 : List Int) (x1 : Int) : slicesContains n x0 x1 =
  obind (slicesIndex BIG x0 x1) fun y1 =>
  some (decide (y1 ≥ (0 : Int))) := by kernel_rfl
noncomputable def slicesContains_sp : FnSpec TT := ⟨[.val (.list (.int .i64)), .val (.int .i64)], [.val (.bool)], fun x => slicesContains BIG x.1 x.2⟩
theorem slicesContains_ok : FnOk TT Tryz.prog 53 slicesContains_sp := fnOk_of (C := slicesContains_C) (by kernel_rfl) slicesContains_env Tryz.func53 (show Tryz.f53.body = some (bodyOf Tryz.f53) by kernel_rfl) (by kernel_rfl) (by kernel_rfl) (cuts := slicesContains_cuts) fun x y h => ⟨BIG, h⟩
noncomputable def registryRight_1_g1_C : Ctx TT := ⟨tyOf, [(53, slicesContains_sp.toCall)], 2, [], layOf⟩
theorem registryRight_1_g1_env : EnvOk TT Tryz.prog registryRight_1_g1_C.E := envG (fnCall_ok slicesContains_ok) (envNil)
def registryRight_1_g1_cuts : List (Pos × Cut) := []
noncomputable def registryRight_1_g1 (n : Nat) (x0 : Int) (x1 : List Int) : Option (((Unit × Unit) × List Int × Unit) × (Bool × Unit)) := topG TT Tryz.prog registryRight_1_g1_C registryRight_1_g1_cuts Tryz.f52 (bodyOf Tryz.f52) ⟨[], [], [], [], []⟩ [.val (.int .i64), .ptr 0 29 [.row 3 (.int .i64)]] [.blk 29 [.own 1], .row 3 (.int .i64)] [.val (.bool)] n (x0, (x1, ()), ())
theorem registryRight_1_g1_eq (n : Nat) (x0 : Int) (x1 : List Int) : registryRight_1_g1 n x0 x1 =
  forkB (x0 == (0 : Int))
  (some ((((), ()), x1, ()), (true, ())))
  (obind (slicesContains BIG x1 x0) fun y1 =>
   some ((((), ()), x1, ()), (y1, ()))) := by kernel_rfl
noncomputable def registryRight_1_g1_sp : GSpec TT := ⟨[.val (.int .i64), .ptr 0 29 [.row 3 (.int .i64)]], [.blk 29 [.own 1], .row 3 (.int .i64)], [.val (.bool)], fun x => registryRight_1_g1 BIG x.1 x.2.1.1⟩
theorem registryRight_1_g1_ok : GOk TT Tryz.prog 52 registryRight_1_g1_sp := gOk_of (C := registryRight_1_g1_C) (cuts := registryRight_1_g1_cuts) (by kernel_rfl) registryRight_1_g1_env Tryz.func52 (show Tryz.f52.body = some (bodyOf Tryz.f52) by kernel_rfl) (by kernel_rfl) (by kernel_rfl) (by kernel_rfl) fun x y h => ⟨BIG, h⟩
noncomputable def registryRight_2_C : Ctx TT := ⟨tyOf, [(57, registry_bundled_sp.toCall)], 0, [], layOf⟩
theorem registryRight_2_env : EnvOk TT Tryz.prog registryRight_2_C.E := envG (fnCall_ok registry_bundled_ok) (envNil)
def registryRight_2_cuts : List (Pos × Cut) := []
noncomputable def registryRight_2 (n : Nat) (x0 : Held) : Option (Bool) := topF TT Tryz.prog registryRight_2_C registryRight_2_cuts Tryz.f56 (bodyOf Tryz.f56) ⟨[], []⟩ [.val (.user 1)] [.val (.bool)] n x0
theorem registryRight_2_eq (n : Nat) (x0 : Held) : registryRight_2 n x0 =
  obind (registry_bundled BIG x0.Version x0.Data) fun y1 =>
  some (!y1) := by kernel_rfl
noncomputable def registryRight_2_sp : FnSpec TT := ⟨[.val (.user 1)], [.val (.bool)], fun x => registryRight_2 BIG x⟩
theorem registryRight_2_ok : FnOk TT Tryz.prog 56 registryRight_2_sp := fnOk_of (C := registryRight_2_C) (by kernel_rfl) registryRight_2_env Tryz.func56 (show Tryz.f56.body = some (bodyOf Tryz.f56) by kernel_rfl) (by kernel_rfl) (by kernel_rfl) (cuts := registryRight_2_cuts) fun x y h => ⟨BIG, h⟩
noncomputable def slicesIndexFunc_g1_C : Ctx TT := ⟨tyOf, [(56, registryRight_2_sp.toCall)], 0, [], layOf⟩
theorem slicesIndexFunc_g1_env : EnvOk TT Tryz.prog slicesIndexFunc_g1_C.E := envG (fnCall_ok registryRight_2_ok) (envNil)
def slicesIndexFunc_g1_cuts : List (Pos × Cut) := [([false, true, false, true], ⟨[0, 1, 7, 8], [], false, []⟩)]
noncomputable def slicesIndexFunc_g1 (n : Nat) (x0 : List Held) : Option ((Unit) × (Int × Unit)) := topG TT Tryz.prog slicesIndexFunc_g1_C slicesIndexFunc_g1_cuts Tryz.f96 (bodyOf Tryz.f96) ⟨[], [], [], [], []⟩ [.val (.list (.user 1)), .fn 56 [] []] [] [.val (.int .i64)] n (x0, ((), ()), ())
noncomputable def slicesIndexFunc_g1_L0 (n : Nat) (s0 : List Held) (s7 : Int) (s8 : Int) : Option ((Unit) × (Int × Unit)) := cutG TT Tryz.prog slicesIndexFunc_g1_C slicesIndexFunc_g1_cuts Tryz.f96 (bodyOf Tryz.f96) ⟨[], [], [], [], []⟩ [] [.val (.int .i64)] n [false, true, false, true] ⟨[(0, .cell ⟨.list (.user 1), s0⟩), (1, .fn (.func 56) [] []), (7, .cell ⟨.int .i64, s7⟩), (8, .cell ⟨.int .i64, s8⟩)], []⟩
theorem slicesIndexFunc_g1_eq (n : Nat) (x0 : List Held) : slicesIndexFunc_g1 n x0 =
  slicesIndexFunc_g1_L0 n x0 ((x0.length : Nat) : Int) (0 : Int) := by kernel_rfl
theorem slicesIndexFunc_g1_L0_eq (n : Nat) (s0 : List Held) (s7 : Int) (s8 : Int) : slicesIndexFunc_g1_L0 (n + 1) s0 s7 s8 =
  forkB (decide (s8 < s7))
  (if 0 ≤ s8 ∧ s8 < ((s0.length : Nat) : Int) then (obind (registryRight_2 BIG (s0.getD s8.toNat dHeld)) fun y1 =>
   forkB y1
   (some ((), (s8, ())))
   (slicesIndexFunc_g1_L0 n s0 s7 (IntKind.i64.wrap (s8 + (1 : Int))))) else none)
  (some ((), ((-1 : Int), ()))) := by kernel_rfl
noncomputable def slicesIndexFunc_g1_sp : GSpec TT := ⟨[.val (.list (.user 1)), .fn 56 [] []], [], [.val (.int .i64)], fun x => slicesIndexFunc_g1 BIG x.1⟩
theorem slicesIndexFunc_g1_ok : GOk TT Tryz.prog 96 slicesIndexFunc_g1_sp := gOk_of (C := slicesIndexFunc_g1_C) (cuts := slicesIndexFunc_g1_cuts) (by kernel_rfl) slicesIndexFunc_g1_env Tryz.func96 (show Tryz.f96.body = some (bodyOf Tryz.f96) by kernel_rfl) (by kernel_rfl) (by kernel_rfl) (by kernel_rfl) fun x y h => ⟨BIG, h⟩
noncomputable def slicesContainsFunc_g1_C : Ctx TT := ⟨tyOf, [(96, slicesIndexFunc_g1_sp.toCall (noCall TT))], 0, [], layOf⟩
theorem slicesContainsFunc_g1_env : EnvOk TT Tryz.prog slicesContainsFunc_g1_C.E := envG (gCall_ok slicesIndexFunc_g1_ok (noCall_ok 96)) (envNil)
def slicesContainsFunc_g1_cuts : List (Pos × Cut) := []
noncomputable def slicesContainsFunc_g1 (n : Nat) (x0 : List Held) : Option ((Unit) × (Bool × Unit)) := topG TT Tryz.prog slicesContainsFunc_g1_C slicesContainsFunc_g1_cuts Tryz.f55 (bodyOf Tryz.f55) ⟨[], [], [], [], []⟩ [.val (.list (.user 1)), .fn 56 [] []] [] [.val (.bool)] n (x0, ((), ()), ())
theorem slicesContainsFunc_g1_eq (n : Nat) (x0 : List Held) : slicesContainsFunc_g1 n x0 =
  obind (slicesIndexFunc_g1 BIG x0) fun y1 =>
  some ((), (decide (y1.2.1 ≥ (0 : Int)), ())) := by kernel_rfl
noncomputable def slicesContainsFunc_g1_sp : GSpec TT := ⟨[.val (.list (.user 1)), .fn 56 [] []], [], [.val (.bool)], fun x => slicesContainsFunc_g1 BIG x.1⟩
theorem slicesContainsFunc_g1_ok : GOk TT Tryz.prog 55 slicesContainsFunc_g1_sp := gOk_of (C := slicesContainsFunc_g1_C) (cuts := slicesContainsFunc_g1_cuts) (by kernel_rfl) slicesContainsFunc_g1_env Tryz.func55 (show Tryz.f55.body = some (bodyOf Tryz.f55) by kernel_rfl) (by kernel_rfl) (by kernel_rfl) (by kernel_rfl) fun x y h => ⟨BIG, h⟩
noncomputable def registryRight_C : Ctx TT := ⟨tyOf, [(28, registry_within_sp.toCall), (54, registry_rises_sp.toCall), (52, registryRight_1_g1_sp.toCall (noCall TT)), (55, slicesContainsFunc_g1_sp.toCall (noCall TT))], 0, [], layOf⟩
theorem registryRight_env : EnvOk TT Tryz.prog registryRight_C.E := envG (fnCall_ok registry_within_ok) (envG (fnCall_ok registry_rises_ok) (envG (gCall_ok registryRight_1_g1_ok (noCall_ok 52)) (envG (gCall_ok slicesContainsFunc_g1_ok (noCall_ok 55)) (envNil))))
def registryRight_cuts : List (Pos × Cut) := [([false, true, false, true, true], ⟨[0, 3, 5, 10, 11, 12], [], false, [(1, 0, 3, .int .i64)]⟩), ([false, false, true, true, true, true], ⟨[3, 23], [], false, []⟩), ([false, true, true, false, false, true, true, true, true], ⟨[3, 50], [], false, []⟩), ([true, true, false, true, true, false, false, true, true, true, true], ⟨[3, 50], [], false, []⟩)]
noncomputable def registryRight (n : Nat) (x0 : Int) (x1 : Registry) : Option (Bool) := topF TT Tryz.prog registryRight_C registryRight_cuts Tryz.f23 (bodyOf Tryz.f23) ⟨[], []⟩ [.val (.int .i64), .val (.user 2)] [.val (.bool)] n (x0, x1)
noncomputable def registryRight_L0 (n : Nat) (s0 : Int) (s10 : List Held) (s11 : Int) (s12 : Int) (b0_0 : List Held) (b0_1 : Int) (b0_2 : Int) (b0_3 : Int) (b0_4 : List Int) (b0_5 : Bool) (r2 : List Int) : Option (Bool) := cutF TT Tryz.prog registryRight_C registryRight_cuts Tryz.f23 (bodyOf Tryz.f23) ⟨[], []⟩ [.val (.int .i64), .val (.user 2)] [.val (.bool)] n [false, true, false, true, true] ⟨[(0, .cell ⟨.int .i64, s0⟩), (3, .ptr 0 0), (5, .ptr 1 0), (10, .cell ⟨.list (.user 1), s10⟩), (11, .cell ⟨.int .i64, s11⟩), (12, .cell ⟨.int .i64, s12⟩)], [.blk 31 [.cell ⟨.list (.user 1), b0_0⟩, .cell ⟨.int .i64, b0_1⟩, .cell ⟨.int .i64, b0_2⟩, .cell ⟨.int .i64, b0_3⟩, .cell ⟨.list (.int .i64), b0_4⟩, .cell ⟨.bool, b0_5⟩], .blk 29 [.own 2], .row 3 (.int .i64) r2]⟩
noncomputable def registryRight_J1 (n : Nat) (s23 : Bool) (b0_0 : List Held) (b0_1 : Int) (b0_2 : Int) (b0_3 : Int) (b0_4 : List Int) (b0_5 : Bool) : Option (Bool) := cutF TT Tryz.prog registryRight_C registryRight_cuts Tryz.f23 (bodyOf Tryz.f23) ⟨[], []⟩ [.val (.int .i64), .val (.user 2)] [.val (.bool)] n [false, false, true, true, true, true] ⟨[(3, .ptr 0 0), (23, .cell ⟨.bool, s23⟩)], [.blk 31 [.cell ⟨.list (.user 1), b0_0⟩, .cell ⟨.int .i64, b0_1⟩, .cell ⟨.int .i64, b0_2⟩, .cell ⟨.int .i64, b0_3⟩, .cell ⟨.list (.int .i64), b0_4⟩, .cell ⟨.bool, b0_5⟩]]⟩
noncomputable def registryRight_J2 (n : Nat) (s50 : Bool) (b0_0 : List Held) (b0_1 : Int) (b0_2 : Int) (b0_3 : Int) (b0_4 : List Int) (b0_5 : Bool) : Option (Bool) := cutF TT Tryz.prog registryRight_C registryRight_cuts Tryz.f23 (bodyOf Tryz.f23) ⟨[], []⟩ [.val (.int .i64), .val (.user 2)] [.val (.bool)] n [false, true, true, false, false, true, true, true, true] ⟨[(3, .ptr 0 0), (50, .cell ⟨.bool, s50⟩)], [.blk 31 [.cell ⟨.list (.user 1), b0_0⟩, .cell ⟨.int .i64, b0_1⟩, .cell ⟨.int .i64, b0_2⟩, .cell ⟨.int .i64, b0_3⟩, .cell ⟨.list (.int .i64), b0_4⟩, .cell ⟨.bool, b0_5⟩]]⟩
noncomputable def registryRight_J3 (n : Nat) (s50 : Bool) (b0_0 : List Held) (b0_1 : Int) (b0_2 : Int) (b0_3 : Int) (b0_4 : List Int) (b0_5 : Bool) : Option (Bool) := cutF TT Tryz.prog registryRight_C registryRight_cuts Tryz.f23 (bodyOf Tryz.f23) ⟨[], []⟩ [.val (.int .i64), .val (.user 2)] [.val (.bool)] n [true, true, false, true, true, false, false, true, true, true, true] ⟨[(3, .ptr 0 0), (50, .cell ⟨.bool, s50⟩)], [.blk 31 [.cell ⟨.list (.user 1), b0_0⟩, .cell ⟨.int .i64, b0_1⟩, .cell ⟨.int .i64, b0_2⟩, .cell ⟨.int .i64, b0_3⟩, .cell ⟨.list (.int .i64), b0_4⟩, .cell ⟨.bool, b0_5⟩]]⟩
theorem registryRight_eq (n : Nat) (x0 : Int) (x1 : Registry) : registryRight n x0 x1 =
  registryRight_L0 n x0 x1.Held ((x1.Held.length : Nat) : Int) (0 : Int) x1.Held x1.Active x1.Before x1.Rollout x1.Yes x1.No ([] : List Int) := by kernel_rfl
theorem registryRight_L0_eq (n : Nat) (s0 : Int) (s10 : List Held) (s11 : Int) (s12 : Int) (b0_0 : List Held) (b0_1 : Int) (b0_2 : Int) (b0_3 : Int) (b0_4 : List Int) (b0_5 : Bool) (r2 : List Int) : registryRight_L0 (n + 1) s0 s10 s11 s12 b0_0 b0_1 b0_2 b0_3 b0_4 b0_5 r2 =
  forkB (decide (s12 < s11))
  (if 0 ≤ s12 ∧ s12 < ((s10.length : Nat) : Int) then (if (r2.length + 1) * 8 ≤ 140737488355328 then (registryRight_L0 n s0 s10 s11 (IntKind.i64.wrap (s12 + (1 : Int))) b0_0 b0_1 b0_2 b0_3 b0_4 b0_5 (r2 ++ ([(s10.getD s12.toNat dHeld).Version] : List Int))) else none) else none)
  (obind (registry_within BIG s0 (7 : Int)) fun y1 =>
   forkB (!y1)
   (registryRight_J1 n (!y1) b0_0 b0_1 b0_2 b0_3 b0_4 b0_5)
   (obind (registry_rises BIG (1073741824 : Int) r2) fun y2 =>
    forkB (!y2)
    (registryRight_J1 n (!y2) b0_0 b0_1 b0_2 b0_3 b0_4 b0_5)
    (obind (registry_rises BIG s0 b0_4) fun y3 =>
     forkB (!y3)
     (registryRight_J1 n (!y3) b0_0 b0_1 b0_2 b0_3 b0_4 b0_5)
     (obind (registryRight_1_g1 BIG b0_1 r2) fun y4 =>
      forkB (!y4.2.1)
      (registryRight_J1 n (!y4.2.1) b0_0 b0_1 b0_2 b0_3 b0_4 b0_5)
      (obind (registryRight_1_g1 BIG b0_2 y4.1.2.1) fun y5 =>
       forkB (!y5.2.1)
       (registryRight_J1 n (!y5.2.1) b0_0 b0_1 b0_2 b0_3 b0_4 b0_5)
       (obind (registryRight_1_g1 BIG b0_3 y5.1.2.1) fun y6 =>
        registryRight_J1 n (!y6.2.1) b0_0 b0_1 b0_2 b0_3 b0_4 b0_5)))))) := by kernel_rfl
theorem registryRight_J1_eq (n : Nat) (s23 : Bool) (b0_0 : List Held) (b0_1 : Int) (b0_2 : Int) (b0_3 : Int) (b0_4 : List Int) (b0_5 : Bool) : registryRight_J1 (n + 1) s23 b0_0 b0_1 b0_2 b0_3 b0_4 b0_5 =
  forkB s23
  (some false)
  (forkB (b0_1 == (0 : Int))
   (registryRight_J2 n (b0_2 != (0 : Int)) b0_0 b0_1 b0_2 b0_3 b0_4 b0_5)
   (registryRight_J2 n false b0_0 b0_1 b0_2 b0_3 b0_4 b0_5)) := by kernel_rfl
theorem registryRight_J2_eq (n : Nat) (s50 : Bool) (b0_0 : List Held) (b0_1 : Int) (b0_2 : Int) (b0_3 : Int) (b0_4 : List Int) (b0_5 : Bool) : registryRight_J2 (n + 1) s50 b0_0 b0_1 b0_2 b0_3 b0_4 b0_5 =
  forkB s50
  (forkB s50
   (some false)
   (obind (slicesContainsFunc_g1 BIG b0_0) fun y1 =>
    some (!y1.2.1)))
  (forkB (b0_3 != (0 : Int))
   (registryRight_J3 n (b0_3 == b0_1) b0_0 b0_1 b0_2 b0_3 b0_4 b0_5)
   (registryRight_J3 n false b0_0 b0_1 b0_2 b0_3 b0_4 b0_5)) := by kernel_rfl
theorem registryRight_J3_eq (n : Nat) (s50 : Bool) (b0_0 : List Held) (b0_1 : Int) (b0_2 : Int) (b0_3 : Int) (b0_4 : List Int) (b0_5 : Bool) : registryRight_J3 (n + 1) s50 b0_0 b0_1 b0_2 b0_3 b0_4 b0_5 =
  forkB s50
  (forkB s50
   (some false)
   (obind (slicesContainsFunc_g1 BIG b0_0) fun y1 =>
    some (!y1.2.1)))
  (forkB (b0_3 == (0 : Int))
   (forkB (decide (((b0_4.length : Nat) : Int) > (0 : Int)))
    (some false)
    (forkB b0_5
     (some false)
     (obind (slicesContainsFunc_g1 BIG b0_0) fun y2 =>
      some (!y2.2.1))))
   (obind (slicesContainsFunc_g1 BIG b0_0) fun y3 =>
    some (!y3.2.1))) := by kernel_rfl
noncomputable def registryRight_sp : FnSpec TT := ⟨[.val (.int .i64), .val (.user 2)], [.val (.bool)], fun x => registryRight BIG x.1 x.2⟩
theorem registryRight_ok : FnOk TT Tryz.prog 23 registryRight_sp := fnOk_of (C := registryRight_C) (by kernel_rfl) registryRight_env Tryz.func23 (show Tryz.f23.body = some (bodyOf Tryz.f23) by kernel_rfl) (by kernel_rfl) (by kernel_rfl) (cuts := registryRight_cuts) fun x y h => ⟨BIG, h⟩
end Go.X
