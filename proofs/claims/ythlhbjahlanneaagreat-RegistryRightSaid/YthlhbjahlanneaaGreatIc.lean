/- The law RegistryRight. -/
import Derived.Test.YthlhbjahlanneaaGreatIb
namespace Go.X
open Go.RowKit Go.V Go.Proofs
noncomputable def registry_rises_C : Ctx TT := ⟨tyOf, [(28, registry_within_sp.toCall)], 0, [], layOf⟩
theorem registry_rises_env : EnvOk TT Tryz.prog registry_rises_C.E := envG (fnCall_ok registry_within_ok) (envNil)
def registry_rises_cuts : List (Pos × Cut) := [([false, true, false, true], ⟨[0, 1, 7, 8, 9], [], false, []⟩), ([true, false, false, true, true, false, false, true, false, true], ⟨[0, 1, 7, 8, 9, 30], [], false, []⟩)]
noncomputable def registry_rises (n : Nat) (x0 : Int) (x1 : List Int) : Option (Bool) := topF TT Tryz.prog registry_rises_C registry_rises_cuts Tryz.f54 (bodyOf Tryz.f54) ⟨[], []⟩ [.val (.int .i64), .val (.list (.int .i64))] [.val (.bool)] n (x0, x1)
noncomputable def registry_rises_L0 (n : Nat) (s0 : Int) (s1 : List Int) (s7 : List Int) (s8 : Int) (s9 : Int) : Option (Bool) := cutF TT Tryz.prog registry_rises_C registry_rises_cuts Tryz.f54 (bodyOf Tryz.f54) ⟨[], []⟩ [.val (.int .i64), .val (.list (.int .i64))] [.val (.bool)] n [false, true, false, true] ⟨[(0, .cell ⟨.int .i64, s0⟩), (1, .cell ⟨.list (.int .i64), s1⟩), (7, .cell ⟨.list (.int .i64), s7⟩), (8, .cell ⟨.int .i64, s8⟩), (9, .cell ⟨.int .i64, s9⟩)], []⟩
noncomputable def registry_rises_J1 (n : Nat) (s0 : Int) (s1 : List Int) (s7 : List Int) (s8 : Int) (s9 : Int) (s30 : Bool) : Option (Bool) := cutF TT Tryz.prog registry_rises_C registry_rises_cuts Tryz.f54 (bodyOf Tryz.f54) ⟨[], []⟩ [.val (.int .i64), .val (.list (.int .i64))] [.val (.bool)] n [true, false, false, true, true, false, false, true, false, true] ⟨[(0, .cell ⟨.int .i64, s0⟩), (1, .cell ⟨.list (.int .i64), s1⟩), (7, .cell ⟨.list (.int .i64), s7⟩), (8, .cell ⟨.int .i64, s8⟩), (9, .cell ⟨.int .i64, s9⟩), (30, .cell ⟨.bool, s30⟩)], []⟩
theorem registry_rises_eq (n : Nat) (x0 : Int) (x1 : List Int) : registry_rises n x0 x1 =
  registry_rises_L0 n x0 x1 x1 ((x1.length : Nat) : Int) (0 : Int) := by kernel_rfl
theorem registry_rises_L0_eq (n : Nat) (s0 : Int) (s1 : List Int) (s7 : List Int) (s8 : Int) (s9 : Int) : registry_rises_L0 (n + 1) s0 s1 s7 s8 s9 =
  forkB (decide (s9 < s8))
  (if 0 ≤ s9 ∧ s9 < ((s7.length : Nat) : Int) then (obind (registry_within BIG (s7.getD s9.toNat (0 : Int)) s0) fun y1 =>
   forkB (!y1)
   (registry_rises_J1 n s0 s1 s7 s8 s9 true)
   (forkB (decide (s9 > (0 : Int)))
    (if 0 ≤ IntKind.i64.wrap (s9 - (1 : Int)) ∧ IntKind.i64.wrap (s9 - (1 : Int)) < ((s1.length : Nat) : Int) then (registry_rises_J1 n s0 s1 s7 s8 s9 (decide ((s1.getD ((IntKind.i64.wrap (s9 - (1 : Int))).toNat) (0 : Int)) ≥ (s7.getD s9.toNat (0 : Int))))) else none)
    (registry_rises_J1 n s0 s1 s7 s8 s9 false))) else none)
  (some true) := by kernel_rfl
theorem registry_rises_J1_eq (n : Nat) (s0 : Int) (s1 : List Int) (s7 : List Int) (s8 : Int) (s9 : Int) (s30 : Bool) : registry_rises_J1 (n + 1) s0 s1 s7 s8 s9 s30 =
  forkB s30
  (some false)
  (registry_rises_L0 n s0 s1 s7 s8 (IntKind.i64.wrap (s9 + (1 : Int)))) := by kernel_rfl
noncomputable def registry_rises_sp : FnSpec TT := ⟨[.val (.int .i64), .val (.list (.int .i64))], [.val (.bool)], fun x => registry_rises BIG x.1 x.2⟩
theorem registry_rises_ok : FnOk TT Tryz.prog 54 registry_rises_sp := fnOk_of (C := registry_rises_C) (by kernel_rfl) registry_rises_env Tryz.func54 (show Tryz.f54.body = some (bodyOf Tryz.f54) by kernel_rfl) (by kernel_rfl) (by kernel_rfl) (cuts := registry_rises_cuts) fun x y h => ⟨BIG, h⟩
noncomputable def slicesIndex_C : Ctx TT := ⟨tyOf, [], 0, [], layOf⟩
theorem slicesIndex_env : EnvOk TT Tryz.prog slicesIndex_C.E := envNil
def slicesIndex_cuts : List (Pos × Cut) := [([false, true, false, true], ⟨[0, 1, 7, 8], [], false, []⟩)]
noncomputable def slicesIndex (n : Nat) (x0 : List Int) (x1 : Int) : Option (Int) := topF TT Tryz.prog slicesIndex_C slicesIndex_cuts Tryz.f95 (bodyOf Tryz.f95) ⟨[], []⟩ [.val (.list (.int .i64)), .val (.int .i64)] [.val (.int .i64)] n (x0, x1)
noncomputable def slicesIndex_L0 (n : Nat) (s0 : List Int) (s1 : Int) (s7 : Int) (s8 : Int) : Option (Int) := cutF TT Tryz.prog slicesIndex_C slicesIndex_cuts Tryz.f95 (bodyOf Tryz.f95) ⟨[], []⟩ [.val (.list (.int .i64)), .val (.int .i64)] [.val (.int .i64)] n [false, true, false, true] ⟨[(0, .cell ⟨.list (.int .i64), s0⟩), (1, .cell ⟨.int .i64, s1⟩), (7, .cell ⟨.int .i64, s7⟩), (8, .cell ⟨.int .i64, s8⟩)], []⟩
theorem slicesIndex_eq (n : Nat) (x0 : List Int) (x1 : Int) : slicesIndex n x0 x1 =
  slicesIndex_L0 n x0 x1 ((x0.length : Nat) : Int) (0 : Int) := by kernel_rfl
theorem slicesIndex_L0_eq (n : Nat) (s0 : List Int) (s1 : Int) (s7 : Int) (s8 : Int) : slicesIndex_L0 (n + 1) s0 s1 s7 s8 =
  forkB (decide (s8 < s7))
  (if 0 ≤ s8 ∧ s8 < ((s0.length : Nat) : Int) then (forkB (s1 == (s0.getD s8.toNat (0 : Int)))
   (some s8)
   (slicesIndex_L0 n s0 s1 s7 (IntKind.i64.wrap (s8 + (1 : Int))))) else none)
  (some (-1 : Int)) := by kernel_rfl
noncomputable def slicesIndex_sp : FnSpec TT := ⟨[.val (.list (.int .i64)), .val (.int .i64)], [.val (.int .i64)], fun x => slicesIndex BIG x.1 x.2⟩
theorem slicesIndex_ok : FnOk TT Tryz.prog 95 slicesIndex_sp := fnOk_of (C := slicesIndex_C) (by kernel_rfl) slicesIndex_env Tryz.func95 (show Tryz.f95.body = some (bodyOf Tryz.f95) by kernel_rfl) (by kernel_rfl) (by kernel_rfl) (cuts := slicesIndex_cuts) fun x y h => ⟨BIG, h⟩
noncomputable def slicesContains_C : Ctx TT := ⟨tyOf, [(95, slicesIndex_sp.toCall)], 0, [], layOf⟩
theorem slicesContains_env : EnvOk TT Tryz.prog slicesContains_C.E := envG (fnCall_ok slicesIndex_ok) (envNil)
def slicesContains_cuts : List (Pos × Cut) := []
noncomputable def slicesContains (n : Nat) (x0 : List Int) (x1 : Int) : Option (Bool) := topF TT Tryz.prog slicesContains_C slicesContains_cuts Tryz.f53 (bodyOf Tryz.f53) ⟨[], []⟩ [.val (.list (.int .i64)), .val (.int .i64)] [.val (.bool)] n (x0, x1)
theorem slicesContains_eq (n : Nat) (x0 : List Int) (x1 : Int) : slicesContains n x0 x1 =
  obind (slicesIndex BIG x0 x1) fun y1 =>
  some (decide (y1 ≥ (0 : Int))) := by kernel_rfl
noncomputable def slicesContains_sp : FnSpec TT := ⟨[.val (.list (.int .i64)), .val (.int .i64)], [.val (.bool)], fun x => slicesContains BIG x.1 x.2⟩
theorem slicesContains_ok : FnOk TT Tryz.prog 53 slicesContains_sp := fnOk_of (C := slicesContains_C) (by kernel_rfl) slicesContains_env Tryz.func53 (show Tryz.f53.body = some (bodyOf Tryz.f53) by kernel_rfl) (by kernel_rfl) (by kernel_rfl) (cuts := slicesContains_cuts) fun x y h => ⟨BIG, h⟩
noncomputable def registryRight_1_g1_C : Ctx TT := ⟨tyOf, [(53, slicesContains_sp.toCall)], 2, [], layOf⟩
theorem registryRight_1_g1_env : EnvOk TT Tryz.prog registryRight_1_g1_C.E := envG (fnCall_ok slicesContains_ok) (envNil)
def registryRight_1_g1_cuts : List (Pos × Cut) := []
noncomputable def registryRight_1_g1 (n : Nat) (x0 : Int) (x1 : List Int) : Option (((Unit × Unit) × List Int × Unit) × (Bool × Unit)) := topG TT Tryz.prog registryRight_1_g1_C registryRight_1_g1_cuts Tryz.f52 (bodyOf Tryz.f52) ⟨[], [], [], [], []⟩ [.val (.int .i64), .ptr 0 29 [.row 3 (.int .i64)]] [.blk 29 [.own 1], .row 3 (.int .i64)] [.val (.bool)] n (x0, (x1, ()), ())
theorem registryRight_1_g1_eq (n : Nat) (x0 : Int) (x1 : List Int) : registryRight_1_g1 n x0 x1 =
  forkB (x0 == (0 : Int))
  (some ((((), ()), x1, ()), (true, ())))
  (obind (slicesContains BIG x1 x0) fun y1 =>
   some ((((), ()), x1, ()), (y1, ()))) := by kernel_rfl
noncomputable def registryRight_1_g1_sp : GSpec TT := ⟨[.val (.int .i64), .ptr 0 29 [.row 3 (.int .i64)]], [.blk 29 [.own 1], .row 3 (.int .i64)], [.val (.bool)], fun x => registryRight_1_g1 BIG x.1 x.2.1.1⟩
theorem registryRight_1_g1_ok : GOk TT Tryz.prog 52 registryRight_1_g1_sp := gOk_of (C := registryRight_1_g1_C) (cuts := registryRight_1_g1_cuts) (by kernel_rfl) registryRight_1_g1_env Tryz.func52 (show Tryz.f52.body = some (bodyOf Tryz.f52) by kernel_rfl) (by kernel_rfl) (by kernel_rfl) (by kernel_rfl) fun x y h => ⟨BIG, h⟩
noncomputable def registryRight_2_C : Ctx TT := ⟨tyOf, [(57, registry_bundled_sp.toCall)], 0, [], layOf⟩
theorem registryRight_2_env : EnvOk TT Tryz.prog registryRight_2_C.E := envG (fnCall_ok registry_bundled_ok) (envNil)
def registryRight_2_cuts : List (Pos × Cut) := []
noncomputable def registryRight_2 (n : Nat) (x0 : Held) : Option (Bool) := topF TT Tryz.prog registryRight_2_C registryRight_2_cuts Tryz.f56 (bodyOf Tryz.f56) ⟨[], []⟩ [.val (.user 1)] [.val (.bool)] n x0
theorem registryRight_2_eq (n : Nat) (x0 : Held) : registryRight_2 n x0 =
  obind (registry_bundled BIG x0.Version x0.Data) fun y1 =>
  some (!y1) := by kernel_rfl
noncomputable def registryRight_2_sp : FnSpec TT := ⟨[.val (.user 1)], [.val (.bool)], fun x => registryRight_2 BIG x⟩
theorem registryRight_2_ok : FnOk TT Tryz.prog 56 registryRight_2_sp := fnOk_of (C := registryRight_2_C) (by kernel_rfl) registryRight_2_env Tryz.func56 (show Tryz.f56.body = some (bodyOf Tryz.f56) by kernel_rfl) (by kernel_rfl) (by kernel_rfl) (cuts := registryRight_2_cuts) fun x y h => ⟨BIG, h⟩
noncomputable def slicesIndexFunc_g1_C : Ctx TT := ⟨tyOf, [(56, registryRight_2_sp.toCall)], 0, [], layOf⟩
theorem slicesIndexFunc_g1_env : EnvOk TT Tryz.prog slicesIndexFunc_g1_C.E := envG (fnCall_ok registryRight_2_ok) (envNil)
def slicesIndexFunc_g1_cuts : List (Pos × Cut) := [([false, true, false, true], ⟨[0, 1, 7, 8], [], false, []⟩)]
noncomputable def slicesIndexFunc_g1 (n : Nat) (x0 : List Held) : Option ((Unit) × (Int × Unit)) := topG TT Tryz.prog slicesIndexFunc_g1_C slicesIndexFunc_g1_cuts Tryz.f96 (bodyOf Tryz.f96) ⟨[], [], [], [], []⟩ [.val (.list (.user 1)), .fn 56 [] []] [] [.val (.int .i64)] n (x0, ((), ()), ())
noncomputable def slicesIndexFunc_g1_L0 (n : Nat) (s0 : List Held) (s7 : Int) (s8 : Int) : Option ((Unit) × (Int × Unit)) := cutG TT Tryz.prog slicesIndexFunc_g1_C slicesIndexFunc_g1_cuts Tryz.f96 (bodyOf Tryz.f96) ⟨[], [], [], [], []⟩ [] [.val (.int .i64)] n [false, true, false, true] ⟨[(0, .cell ⟨.list (.user 1), s0⟩), (1, .fn (.func 56) [] []), (7, .cell ⟨.int .i64, s7⟩), (8, .cell ⟨.int .i64, s8⟩)], []⟩
theorem slicesIndexFunc_g1_eq (n : Nat) (x0 : List Held) : slicesIndexFunc_g1 n x0 =
  slicesIndexFunc_g1_L0 n x0 ((x0.length : Nat) : Int) (0 : Int) := by kernel_rfl
theorem slicesIndexFunc_g1_L0_eq (n : Nat) (s0 : List Held) (s7 : Int) (s8 : Int) : slicesIndexFunc_g1_L0 (n + 1) s0 s7 s8 =
  forkB (decide (s8 < s7))
  (if 0 ≤ s8 ∧ s8 < ((s0.length : Nat) : Int) then (obind (registryRight_2 BIG (s0.getD s8.toNat dHeld)) fun y1 =>
   forkB y1
   (some ((), (s8, ())))
   (slicesIndexFunc_g1_L0 n s0 s7 (IntKind.i64.wrap (s8 + (1 : Int))))) else none)
  (some ((), ((-1 : Int), ()))) := by kernel_rfl
noncomputable def slicesIndexFunc_g1_sp : GSpec TT := ⟨[.val (.list (.user 1)), .fn 56 [] []], [], [.val (.int .i64)], fun x => slicesIndexFunc_g1 BIG x.1⟩
theorem slicesIndexFunc_g1_ok : GOk TT Tryz.prog 96 slicesIndexFunc_g1_sp := gOk_of (C := slicesIndexFunc_g1_C) (cuts := slicesIndexFunc_g1_cuts) (by kernel_rfl) slicesIndexFunc_g1_env Tryz.func96 (show Tryz.f96.body = some (bodyOf Tryz.f96) by kernel_rfl) (by kernel_rfl) (by kernel_rfl) (by kernel_rfl) fun x y h => ⟨BIG, h⟩
noncomputable def slicesContainsFunc_g1_C : Ctx TT := ⟨tyOf, [(96, slicesIndexFunc_g1_sp.toCall (noCall TT))], 0, [], layOf⟩
theorem slicesContainsFunc_g1_env : EnvOk TT Tryz.prog slicesContainsFunc_g1_C.E := envG (gCall_ok slicesIndexFunc_g1_ok (noCall_ok 96)) (envNil)
def slicesContainsFunc_g1_cuts : List (Pos × Cut) := []
noncomputable def slicesContainsFunc_g1 (n : Nat) (x0 : List Held) : Option ((Unit) × (Bool × Unit)) := topG TT Tryz.prog slicesContainsFunc_g1_C slicesContainsFunc_g1_cuts Tryz.f55 (bodyOf Tryz.f55) ⟨[], [], [], [], []⟩ [.val (.list (.user 1)), .fn 56 [] []] [] [.val (.bool)] n (x0, ((), ()), ())
theorem slicesContainsFunc_g1_eq (n : Nat) (x0 : List Held) : slicesContainsFunc_g1 n x0 =
  obind (slicesIndexFunc_g1 BIG x0) fun y1 =>
  some ((), (decide (y1.2.1 ≥ (0 : Int)), ())) := by kernel_rfl
noncomputable def slicesContainsFunc_g1_sp : GSpec TT := ⟨[.val (.list (.user 1)), .fn 56 [] []], [], [.val (.bool)], fun x => slicesContainsFunc_g1 BIG x.1⟩
theorem slicesContainsFunc_g1_ok : GOk TT Tryz.prog 55 slicesContainsFunc_g1_sp := gOk_of (C := slicesContainsFunc_g1_C) (cuts := slicesContainsFunc_g1_cuts) (by kernel_rfl) slicesContainsFunc_g1_env Tryz.func55 (show Tryz.f55.body = some (bodyOf Tryz.f55) by kernel_rfl) (by kernel_rfl) (by kernel_rfl) (by kernel_rfl) fun x y h => ⟨BIG, h⟩
noncomputable def registryRight_C : Ctx TT := ⟨tyOf, [(28, registry_within_sp.toCall), (54, registry_rises_sp.toCall), (52, registryRight_1_g1_sp.toCall (noCall TT)), (55, slicesContainsFunc_g1_sp.toCall (noCall TT))], 0, [], layOf⟩
theorem registryRight_env : EnvOk TT Tryz.prog registryRight_C.E := envG (fnCall_ok registry_within_ok) (envG (fnCall_ok registry_rises_ok) (envG (gCall_ok registryRight_1_g1_ok (noCall_ok 52)) (envG (gCall_ok slicesContainsFunc_g1_ok (noCall_ok 55)) (envNil))))
def registryRight_cuts : List (Pos × Cut) := [([false, true, false, true, true], ⟨[0, 3, 5, 10, 11, 12], [], false, [(1, 0, 3, .int .i64)]⟩), ([false, false, true, true, true, true], ⟨[3, 23], [], false, []⟩), ([false, true, true, false, false, true, true, true, true], ⟨[3, 50], [], false, []⟩), ([true, true, false, true, true, false, false, true, true, true, true], ⟨[3, 50], [], false, []⟩)]
noncomputable def registryRight (n : Nat) (x0 : Int) (x1 : Registry) : Option (Bool) := topF TT Tryz.prog registryRight_C registryRight_cuts Tryz.f23 (bodyOf Tryz.f23) ⟨[], []⟩ [.val (.int .i64), .val (.user 2)] [.val (.bool)] n (x0, x1)
noncomputable def registryRight_L0 (n : Nat) (s0 : Int) (s10 : List Held) (s11 : Int) (s12 : Int) (b0_0 : List Held) (b0_1 : Int) (b0_2 : Int) (b0_3 : Int) (b0_4 : List Int) (b0_5 : Bool) (r2 : List Int) : Option (Bool) := cutF TT Tryz.prog registryRight_C registryRight_cuts Tryz.f23 (bodyOf Tryz.f23) ⟨[], []⟩ [.val (.int .i64), .val (.user 2)] [.val (.bool)] n [false, true, false, true, true] ⟨[(0, .cell ⟨.int .i64, s0⟩), (3, .ptr 0 0), (5, .ptr 1 0), (10, .cell ⟨.list (.user 1), s10⟩), (11, .cell ⟨.int .i64, s11⟩), (12, .cell ⟨.int .i64, s12⟩)], [.blk 31 [.cell ⟨.list (.user 1), b0_0⟩, .cell ⟨.int .i64, b0_1⟩, .cell ⟨.int .i64, b0_2⟩, .cell ⟨.int .i64, b0_3⟩, .cell ⟨.list (.int .i64), b0_4⟩, .cell ⟨.bool, b0_5⟩], .blk 29 [.own 2], .row 3 (.int .i64) r2]⟩
noncomputable def registryRight_J1 (n : Nat) (s23 : Bool) (b0_0 : List Held) (b0_1 : Int) (b0_2 : Int) (b0_3 : Int) (b0_4 : List Int) (b0_5 : Bool) : Option (Bool) := cutF TT Tryz.prog registryRight_C registryRight_cuts Tryz.f23 (bodyOf Tryz.f23) ⟨[], []⟩ [.val (.int .i64), .val (.user 2)] [.val (.bool)] n [false, false, true, true, true, true] ⟨[(3, .ptr 0 0), (23, .cell ⟨.bool, s23⟩)], [.blk 31 [.cell ⟨.list (.user 1), b0_0⟩, .cell ⟨.int .i64, b0_1⟩, .cell ⟨.int .i64, b0_2⟩, .cell ⟨.int .i64, b0_3⟩, .cell ⟨.list (.int .i64), b0_4⟩, .cell ⟨.bool, b0_5⟩]]⟩
noncomputable def registryRight_J2 (n : Nat) (s50 : Bool) (b0_0 : List Held) (b0_1 : Int) (b0_2 : Int) (b0_3 : Int) (b0_4 : List Int) (b0_5 : Bool) : Option (Bool) := cutF TT Tryz.prog registryRight_C registryRight_cuts Tryz.f23 (bodyOf Tryz.f23) ⟨[], []⟩ [.val (.int .i64), .val (.user 2)] [.val (.bool)] n [false, true, true, false, false, true, true, true, true] ⟨[(3, .ptr 0 0), (50, .cell ⟨.bool, s50⟩)], [.blk 31 [.cell ⟨.list (.user 1), b0_0⟩, .cell ⟨.int .i64, b0_1⟩, .cell ⟨.int .i64, b0_2⟩, .cell ⟨.int .i64, b0_3⟩, .cell ⟨.list (.int .i64), b0_4⟩, .cell ⟨.bool, b0_5⟩]]⟩
noncomputable def registryRight_J3 (n : Nat) (s50 : Bool) (b0_0 : List Held) (b0_1 : Int) (b0_2 : Int) (b0_3 : Int) (b0_4 : List Int) (b0_5 : Bool) : Option (Bool) := cutF TT Tryz.prog registryRight_C registryRight_cuts Tryz.f23 (bodyOf Tryz.f23) ⟨[], []⟩ [.val (.int .i64), .val (.user 2)] [.val (.bool)] n [true, true, false, true, true, false, false, true, true, true, true] ⟨[(3, .ptr 0 0), (50, .cell ⟨.bool, s50⟩)], [.blk 31 [.cell ⟨.list (.user 1), b0_0⟩, .cell ⟨.int .i64, b0_1⟩, .cell ⟨.int .i64, b0_2⟩, .cell ⟨.int .i64, b0_3⟩, .cell ⟨.list (.int .i64), b0_4⟩, .cell ⟨.bool, b0_5⟩]]⟩
theorem registryRight_eq (n : Nat) (x0 : Int) (x1 : Registry) : registryRight n x0 x1 =
  registryRight_L0 n x0 x1.Held ((x1.Held.length : Nat) : Int) (0 : Int) x1.Held x1.Active x1.Before x1.Rollout x1.Yes x1.No ([] : List Int) := by kernel_rfl
theorem registryRight_L0_eq (n : Nat) (s0 : Int) (s10 : List Held) (s11 : Int) (s12 : Int) (b0_0 : List Held) (b0_1 : Int) (b0_2 : Int) (b0_3 : Int) (b0_4 : List Int) (b0_5 : Bool) (r2 : List Int) : registryRight_L0 (n + 1) s0 s10 s11 s12 b0_0 b0_1 b0_2 b0_3 b0_4 b0_5 r2 =
  forkB (decide (s12 < s11))
  (if 0 ≤ s12 ∧ s12 < ((s10.length : Nat) : Int) then (if (r2.length + 1) * 8 ≤ 140737488355328 then (registryRight_L0 n s0 s10 s11 (IntKind.i64.wrap (s12 + (1 : Int))) b0_0 b0_1 b0_2 b0_3 b0_4 b0_5 (r2 ++ ([(s10.getD s12.toNat dHeld).Version] : List Int))) else none) else none)
  (obind (registry_within BIG s0 (7 : Int)) fun y1 =>
   forkB (!y1)
   (registryRight_J1 n (!y1) b0_0 b0_1 b0_2 b0_3 b0_4 b0_5)
   (obind (registry_rises BIG (1073741824 : Int) r2) fun y2 =>
    forkB (!y2)
    (registryRight_J1 n (!y2) b0_0 b0_1 b0_2 b0_3 b0_4 b0_5)
    (obind (registry_rises BIG s0 b0_4) fun y3 =>
     forkB (!y3)
     (registryRight_J1 n (!y3) b0_0 b0_1 b0_2 b0_3 b0_4 b0_5)
     (obind (registryRight_1_g1 BIG b0_1 r2) fun y4 =>
      forkB (!y4.2.1)
      (registryRight_J1 n (!y4.2.1) b0_0 b0_1 b0_2 b0_3 b0_4 b0_5)
      (obind (registryRight_1_g1 BIG b0_2 y4.1.2.1) fun y5 =>
       forkB (!y5.2.1)
       (registryRight_J1 n (!y5.2.1) b0_0 b0_1 b0_2 b0_3 b0_4 b0_5)
       (obind (registryRight_1_g1 BIG b0_3 y5.1.2.1) fun y6 =>
        registryRight_J1 n (!y6.2.1) b0_0 b0_1 b0_2 b0_3 b0_4 b0_5)))))) := by kernel_rfl
theorem registryRight_J1_eq (n : Nat) (s23 : Bool) (b0_0 : List Held) (b0_1 : Int) (b0_2 : Int) (b0_3 : Int) (b0_4 : List Int) (b0_5 : Bool) : registryRight_J1 (n + 1) s23 b0_0 b0_1 b0_2 b0_3 b0_4 b0_5 =
  forkB s23
  (some false)
  (forkB (b0_1 == (0 : Int))
   (registryRight_J2 n (b0_2 != (0 : Int)) b0_0 b0_1 b0_2 b0_3 b0_4 b0_5)
   (registryRight_J2 n false b0_0 b0_1 b0_2 b0_3 b0_4 b0_5)) := by kernel_rfl
theorem registryRight_J2_eq (n : Nat) (s50 : Bool) (b0_0 : List Held) (b0_1 : Int) (b0_2 : Int) (b0_3 : Int) (b0_4 : List Int) (b0_5 : Bool) : registryRight_J2 (n + 1) s50 b0_0 b0_1 b0_2 b0_3 b0_4 b0_5 =
  forkB s50
  (forkB s50
   (some false)
   (obind (slicesContainsFunc_g1 BIG b0_0) fun y1 =>
    some (!y1.2.1)))
  (forkB (b0_3 != (0 : Int))
   (registryRight_J3 n (b0_3 == b0_1) b0_0 b0_1 b0_2 b0_3 b0_4 b0_5)
   (registryRight_J3 n false b0_0 b0_1 b0_2 b0_3 b0_4 b0_5)) := by kernel_rfl
theorem registryRight_J3_eq (n : Nat) (s50 : Bool) (b0_0 : List Held) (b0_1 : Int) (b0_2 : Int) (b0_3 : Int) (b0_4 : List Int) (b0_5 : Bool) : registryRight_J3 (n + 1) s50 b0_0 b0_1 b0_2 b0_3 b0_4 b0_5 =
  forkB s50
  (forkB s50
   (some false)
   (obind (slicesContainsFunc_g1 BIG b0_0) fun y1 =>
    some (!y1.2.1)))
  (forkB (b0_3 == (0 : Int))
   (forkB (decide (((b0_4.length : Nat) : Int) > (0 : Int)))
    (some false)
    (forkB b0_5
     (some false)
     (obind (slicesContainsFunc_g1 BIG b0_0) fun y2 =>
      some (!y2.2.1))))
   (obind (slicesContainsFunc_g1 BIG b0_0) fun y3 =>
    some (!y3.2.1))) := by kernel_rfl
noncomputable def registryRight_sp : FnSpec TT := ⟨[.val (.int .i64), .val (.user 2)], [.val (.bool)], fun x => registryRight BIG x.1 x.2⟩
theorem registryRight_ok : FnOk TT Tryz.prog 23 registryRight_sp := fnOk_of (C := registryRight_C) (by kernel_rfl) registryRight_env Tryz.func23 (show Tryz.f23.body = some (bodyOf Tryz.f23) by kernel_rfl) (by kernel_rfl) (by kernel_rfl) (cuts := registryRight_cuts) fun x y h => ⟨BIG, h⟩
noncomputable def ref02New_g1_C : Ctx TT := ⟨tyOf, [], 0, [], layOf⟩
theorem ref02New_g1_env : EnvOk TT Tryz.prog ref02New_g1_C.E := envNil
def ref02New_g1_cuts : List (Pos × Cut) := []
noncomputable def ref02New_g1 (n : Nat) (x0 : List Int) : Option ((Unit) × ((List Int × Int × Bool × Unit) × Unit)) := topG TT Tryz.prog ref02New_g1_C ref02New_g1_cuts Tryz.f137 (bodyOf Tryz.f137) ⟨[], [], [], [], []⟩ [.val (.list (.int .u8))] [] [.ptr 0 252 [.row 5 (.int .u8), .val (.int .i64), .val (.bool)]] n (x0, ())
theorem ref02New_g1_eq (n : Nat) (x0 : List Int) : ref02New_g1 n x0 =
  if (0 + x0.length) * 1 ≤ 140737488355328 then (some ((), ((([] : List Int) ++ x0, (0 : Int), false, ()), ()))) else none := by kernel_rfl
noncomputable def ref02New_g1_sp : GSpec TT := ⟨[.val (.list (.int .u8))], [], [.ptr 0 252 [.row 5 (.int .u8), .val (.int .i64), .val (.bool)]], fun x => ref02New_g1 BIG x.1⟩
theorem ref02New_g1_ok : GOk TT Tryz.prog 137 ref02New_g1_sp := gOk_of (C := ref02New_g1_C) (cuts := ref02New_g1_cuts) (by kernel_rfl) ref02New_g1_env Tryz.func137 (show Tryz.f137.body = some (bodyOf Tryz.f137) by kernel_rfl) (by kernel_rfl) (by kernel_rfl) (by kernel_rfl) fun x y h => ⟨BIG, h⟩
noncomputable def ref02ReaderNumber_g1_C : Ctx TT := ⟨tyOf, [], 2, [], layOf⟩
theorem ref02ReaderNumber_g1_env : EnvOk TT Tryz.prog ref02ReaderNumber_g1_C.E := envNil
def ref02ReaderNumber_g1_cuts : List (Pos × Cut) := [([false, true], ⟨[0, 21], [], false, []⟩), ([false, true, false, true, true, true], ⟨[0, 3, 4], [], false, []⟩)]
noncomputable def ref02ReaderNumber_g1 (n : Nat) (x0 : List Int) (x1 : Int) (x2 : Bool) : Option (((Unit × Int × Bool × Unit) × List Int × Unit) × (Int × Unit)) := topG TT Tryz.prog ref02ReaderNumber_g1_C ref02ReaderNumber_g1_cuts Tryz.f138 (bodyOf Tryz.f138) ⟨[], [], [], [], []⟩ [.ptr 0 252 [.row 5 (.int .u8), .val (.int .i64), .val (.bool)]] [.blk 252 [.own 1, .val (.int .i64), .val (.bool)], .row 5 (.int .u8)] [.val (.int .i64)] n ((x0, x1, x2, ()), ())
noncomputable def ref02ReaderNumber_g1_J0 (n : Nat) (s21 : Bool) (b0_1 : Int) (b0_2 : Bool) (r1 : List Int) : Option (((Unit × Int × Bool × Unit) × List Int × Unit) × (Int × Unit)) := cutG TT Tryz.prog ref02ReaderNumber_g1_C ref02ReaderNumber_g1_cuts Tryz.f138 (bodyOf Tryz.f138) ⟨[], [], [], [], []⟩ [.blk 252 [.own 1, .val (.int .i64), .val (.bool)], .row 5 (.int .u8)] [.val (.int .i64)] n [false, true] ⟨[(0, .ptr 0 0), (21, .cell ⟨.bool, s21⟩)], [.blk 252 [.own 1, .cell ⟨.int .i64, b0_1⟩, .cell ⟨.bool, b0_2⟩], .row 5 (.int .u8) r1]⟩
noncomputable def ref02ReaderNumber_g1_L1 (n : Nat) (s3 : Int) (s4 : Int) (b0_1 : Int) (b0_2 : Bool) (r1 : List Int) : Option (((Unit × Int × Bool × Unit) × List Int × Unit) × (Int × Unit)) := cutG TT Tryz.prog ref02ReaderNumber_g1_C ref02ReaderNumber_g1_cuts Tryz.f138 (bodyOf Tryz.f138) ⟨[], [], [], [], []⟩ [.blk 252 [.own 1, .val (.int .i64), .val (.bool)], .row 5 (.int .u8)] [.val (.int .i64)] n [false, true, false, true, true, true] ⟨[(0, .ptr 0 0), (3, .cell ⟨.int .u64, s3⟩), (4, .cell ⟨.int .i64, s4⟩)], [.blk 252 [.own 1, .cell ⟨.int .i64, b0_1⟩, .cell ⟨.bool, b0_2⟩], .row 5 (.int .u8) r1]⟩
theorem ref02ReaderNumber_g1_eq (n : Nat) (x0 : List Int) (x1 : Int) (x2 : Bool) : ref02ReaderNumber_g1 n x0 x1 x2 =
  forkB x2
  (ref02ReaderNumber_g1_J0 n true x1 x2 x0)
  (ref02ReaderNumber_g1_J0 n (decide ((IntKind.i64.wrap (((x0.length : Nat) : Int) - x1)) < (8 : Int))) x1 x2 x0) := by kernel_rfl
theorem ref02ReaderNumber_g1_J0_eq (n : Nat) (s21 : Bool) (b0_1 : Int) (b0_2 : Bool) (r1 : List Int) : ref02ReaderNumber_g1_J0 (n + 1) s21 b0_1 b0_2 r1 =
  forkB s21
  (some ((((), b0_1, true, ()), r1, ()), ((0 : Int), ())))
  (ref02ReaderNumber_g1_L1 n (0 : Int) (0 : Int) b0_1 b0_2 r1) := by kernel_rfl
theorem ref02ReaderNumber_g1_L1_eq (n : Nat) (s3 : Int) (s4 : Int) (b0_1 : Int) (b0_2 : Bool) (r1 : List Int) : ref02ReaderNumber_g1_L1 (n + 1) s3 s4 b0_1 b0_2 r1 =
  forkB (decide (s4 < (8 : Int)))
  (if 0 ≤ IntKind.i64.wrap (b0_1 + s4) ∧ IntKind.i64.wrap (b0_1 + s4) < ((r1.length : Nat) : Int) then (ref02ReaderNumber_g1_L1 n (IntKind.u64.wrap ((IntKind.u64.wrap ((256 : Int) * s3)) + (IntKind.u64.wrap (r1.getD ((IntKind.i64.wrap (b0_1 + s4)).toNat) (0 : Int))))) (IntKind.i64.wrap (s4 + (1 : Int))) b0_1 b0_2 r1) else none)
  (some ((((), IntKind.i64.wrap (b0_1 + (8 : Int)), b0_2, ()), r1, ()), (IntKind.i64.wrap s3, ()))) := by kernel_rfl
noncomputable def ref02ReaderNumber_g1_sp : GSpec TT := ⟨[.ptr 0 252 [.row 5 (.int .u8), .val (.int .i64), .val (.bool)]], [.blk 252 [.own 1, .val (.int .i64), .val (.bool)], .row 5 (.int .u8)], [.val (.int .i64)], fun x => ref02ReaderNumber_g1 BIG x.1.1 x.1.2.1 x.1.2.2.1⟩
theorem ref02ReaderNumber_g1_ok : GOk TT Tryz.prog 138 ref02ReaderNumber_g1_sp := gOk_of (C := ref02ReaderNumber_g1_C) (cuts := ref02ReaderNumber_g1_cuts) (by kernel_rfl) ref02ReaderNumber_g1_env Tryz.func138 (show Tryz.f138.body = some (bodyOf Tryz.f138) by kernel_rfl) (by kernel_rfl) (by kernel_rfl) (by kernel_rfl) fun x y h => ⟨BIG, h⟩
noncomputable def ref02ReaderBytes_g1_C : Ctx TT := ⟨tyOf, [(138, ref02ReaderNumber_g1_sp.toCall (noCall TT))], 2, [(6, 1)], layOf⟩
theorem ref02ReaderBytes_g1_env : EnvOk TT Tryz.prog ref02ReaderBytes_g1_C.E := envG (gCall_ok ref02ReaderNumber_g1_ok (noCall_ok 138)) (envNil)
def ref02ReaderBytes_g1_cuts : List (Pos × Cut) := [([false, true, true], ⟨[0, 3, 27], [], false, []⟩)]
noncomputable def ref02ReaderBytes_g1 (n : Nat) (x0 : List Int) (x1 : Int) (x2 : Bool) : Option (((Unit × Int × Bool × Unit) × List Int × Unit) × (List Int × Unit)) := topG TT Tryz.prog ref02ReaderBytes_g1_C ref02ReaderBytes_g1_cuts Tryz.f139 (bodyOf Tryz.f139) ⟨[(0, 5, .int .u8, true)], [], [], [], []⟩ [.ptr 0 252 [.row 5 (.int .u8), .val (.int .i64), .val (.bool)]] [.blk 252 [.own 1, .val (.int .i64), .val (.bool)], .row 5 (.int .u8)] [.row 5 (.int .u8)] n ((x0, x1, x2, ()), ())
noncomputable def ref02ReaderBytes_g1_J0 (n : Nat) (s3 : Int) (s27 : Bool) (b0_1 : Int) (b0_2 : Bool) (r1 : List Int) : Option (((Unit × Int × Bool × Unit) × List Int × Unit) × (List Int × Unit)) := cutG TT Tryz.prog ref02ReaderBytes_g1_C ref02ReaderBytes_g1_cuts Tryz.f139 (bodyOf Tryz.f139) ⟨[(0, 5, .int .u8, true)], [], [], [], []⟩ [.blk 252 [.own 1, .val (.int .i64), .val (.bool)], .row 5 (.int .u8)] [.row 5 (.int .u8)] n [false, true, true] ⟨[(0, .ptr 0 0), (3, .cell ⟨.int .i64, s3⟩), (27, .cell ⟨.bool, s27⟩)], [.blk 252 [.own 1, .cell ⟨.int .i64, b0_1⟩, .cell ⟨.bool, b0_2⟩], .row 5 (.int .u8) r1]⟩
theorem ref02ReaderBytes_g1_eq (n : Nat) (x0 : List Int) (x1 : Int) (x2 : Bool) : ref02ReaderBytes_g1 n x0 x1 x2 =
  obind (ref02ReaderNumber_g1 BIG x0 x1 x2) fun y1 =>
  forkB y1.1.1.2.2.1
  (ref02ReaderBytes_g1_J0 n y1.2.1 true y1.1.1.2.1 y1.1.1.2.2.1 y1.1.2.1)
  (forkB (decide (y1.2.1 < (0 : Int)))
   (ref02ReaderBytes_g1_J0 n y1.2.1 true y1.1.1.2.1 y1.1.1.2.2.1 y1.1.2.1)
   (ref02ReaderBytes_g1_J0 n y1.2.1 (decide (y1.2.1 > (IntKind.i64.wrap (((y1.1.2.1.length : Nat) : Int) - y1.1.1.2.1)))) y1.1.1.2.1 y1.1.1.2.2.1 y1.1.2.1)) := by kernel_rfl
theorem ref02ReaderBytes_g1_J0_eq (n : Nat) (s3 : Int) (s27 : Bool) (b0_1 : Int) (b0_2 : Bool) (r1 : List Int) : ref02ReaderBytes_g1_J0 (n + 1) s3 s27 b0_1 b0_2 r1 =
  forkB s27
  (some ((((), b0_1, true, ()), r1, ()), (([] : List Int), ())))
  (if 0 ≤ IntKind.i64.wrap ((IntKind.i64.wrap (b0_1 + s3)) - s3) ∧ IntKind.i64.wrap ((IntKind.i64.wrap (b0_1 + s3)) - s3) ≤ IntKind.i64.wrap (b0_1 + s3) ∧ IntKind.i64.wrap (b0_1 + s3) ≤ ((r1.length : Nat) : Int) then (if ((IntKind.i64.wrap ((IntKind.i64.wrap (b0_1 + s3)) - s3)).toNat) + (((IntKind.i64.wrap (b0_1 + s3)).toNat) - ((IntKind.i64.wrap ((IntKind.i64.wrap (b0_1 + s3)) - s3)).toNat)) ≤ r1.length then (if (0 + (List.take (((IntKind.i64.wrap (b0_1 + s3)).toNat) - ((IntKind.i64.wrap ((IntKind.i64.wrap (b0_1 + s3)) - s3)).toNat)) (List.drop ((IntKind.i64.wrap ((IntKind.i64.wrap (b0_1 + s3)) - s3)).toNat) r1)).length) * 1 ≤ 140737488355328 then (some ((((), IntKind.i64.wrap (b0_1 + s3), b0_2, ()), r1, ()), (([] : List Int) ++ (List.take (((IntKind.i64.wrap (b0_1 + s3)).toNat) - ((IntKind.i64.wrap ((IntKind.i64.wrap (b0_1 + s3)) - s3)).toNat)) (List.drop ((IntKind.i64.wrap ((IntKind.i64.wrap (b0_1 + s3)) - s3)).toNat) r1)), ()))) else none) else none) else none) := by kernel_rfl
noncomputable def ref02ReaderBytes_g1_sp : GSpec TT := ⟨[.ptr 0 252 [.row 5 (.int .u8), .val (.int .i64), .val (.bool)]], [.blk 252 [.own 1, .val (.int .i64), .val (.bool)], .row 5 (.int .u8)], [.row 5 (.int .u8)], fun x => ref02ReaderBytes_g1 BIG x.1.1 x.1.2.1 x.1.2.2.1⟩
theorem ref02ReaderBytes_g1_ok : GOk TT Tryz.prog 139 ref02ReaderBytes_g1_sp := gOk_of (C := ref02ReaderBytes_g1_C) (cuts := ref02ReaderBytes_g1_cuts) (by kernel_rfl) ref02ReaderBytes_g1_env Tryz.func139 (show Tryz.f139.body = some (bodyOf Tryz.f139) by kernel_rfl) (by kernel_rfl) (by kernel_rfl) (by kernel_rfl) fun x y h => ⟨BIG, h⟩
noncomputable def ref02ReaderDone_g1_C : Ctx TT := ⟨tyOf, [], 2, [], layOf⟩
theorem ref02ReaderDone_g1_env : EnvOk TT Tryz.prog ref02ReaderDone_g1_C.E := envNil
def ref02ReaderDone_g1_cuts : List (Pos × Cut) := []
noncomputable def ref02ReaderDone_g1 (n : Nat) (x0 : List Int) (x1 : Int) (x2 : Bool) : Option (((Unit × Int × Bool × Unit) × List Int × Unit) × (Bool × Unit)) := topG TT Tryz.prog ref02ReaderDone_g1_C ref02ReaderDone_g1_cuts Tryz.f140 (bodyOf Tryz.f140) ⟨[], [], [], [], []⟩ [.ptr 0 252 [.row 5 (.int .u8), .val (.int .i64), .val (.bool)]] [.blk 252 [.own 1, .val (.int .i64), .val (.bool)], .row 5 (.int .u8)] [.val (.bool)] n ((x0, x1, x2, ()), ())
theorem ref02ReaderDone_g1_eq (n : Nat) (x0 : List Int) (x1 : Int) (x2 : Bool) : ref02ReaderDone_g1 n x0 x1 x2 =
  forkB (!x2)
  (some ((((), x1, x2, ()), x0, ()), (x1 == ((x0.length : Nat) : Int), ())))
  (some ((((), x1, x2, ()), x0, ()), (false, ()))) := by kernel_rfl
noncomputable def ref02ReaderDone_g1_sp : GSpec TT := ⟨[.ptr 0 252 [.row 5 (.int .u8), .val (.int .i64), .val (.bool)]], [.blk 252 [.own 1, .val (.int .i64), .val (.bool)], .row 5 (.int .u8)], [.val (.bool)], fun x => ref02ReaderDone_g1 BIG x.1.1 x.1.2.1 x.1.2.2.1⟩
theorem ref02ReaderDone_g1_ok : GOk TT Tryz.prog 140 ref02ReaderDone_g1_sp := gOk_of (C := ref02ReaderDone_g1_C) (cuts := ref02ReaderDone_g1_cuts) (by kernel_rfl) ref02ReaderDone_g1_env Tryz.func140 (show Tryz.f140.body = some (bodyOf Tryz.f140) by kernel_rfl) (by kernel_rfl) (by kernel_rfl) (by kernel_rfl) fun x y h => ⟨BIG, h⟩
noncomputable def ref19Get_C : Ctx TT := ⟨tyOf, [(137, ref02New_g1_sp.toCall (noCall TT)), (138, ref02ReaderNumber_g1_sp.toCall (noCall TT)), (139, ref02ReaderBytes_g1_sp.toCall (noCall TT)), (140, ref02ReaderDone_g1_sp.toCall (noCall TT)), (102, ref19_wrong_sp.toCall)], 0, [], layOf⟩
theorem ref19Get_env : EnvOk TT Tryz.prog ref19Get_C.E := envG (gCall_ok ref02New_g1_ok (noCall_ok 137)) (envG (gCall_ok ref02ReaderNumber_g1_ok (noCall_ok 138)) (envG (gCall_ok ref02ReaderBytes_g1_ok (noCall_ok 139)) (envG (gCall_ok ref02ReaderDone_g1_ok (noCall_ok 140)) (envG (fnCall_ok ref19_wrong_ok) (envNil)))))
def ref19Get_cuts : List (Pos × Cut) := []
noncomputable def ref19Get (n : Nat) (x0 : List Int) : Option (Bundle × Int) := topF TT Tryz.prog ref19Get_C ref19Get_cuts Tryz.f98 (bodyOf Tryz.f98) ⟨[], [(0, .user 3)]⟩ [.val (.list (.int .u8))] [.val (.user 3), .val (.int .i64)] n x0
theorem ref19Get_eq (n : Nat) (x0 : List Int) : ref19Get n x0 =
  obind (ref02New_g1 BIG x0) fun y1 =>
  obind (ref02ReaderNumber_g1 BIG y1.2.1.1 y1.2.1.2.1 y1.2.1.2.2.1) fun y2 =>
  obind (ref02ReaderBytes_g1 BIG y2.1.2.1 y2.1.1.2.1 y2.1.1.2.2.1) fun y3 =>
  obind (ref02ReaderBytes_g1 BIG y3.1.2.1 y3.1.1.2.1 y3.1.1.2.2.1) fun y4 =>
  obind (ref02ReaderBytes_g1 BIG y4.1.2.1 y4.1.1.2.1 y4.1.1.2.2.1) fun y5 =>
  obind (ref02ReaderDone_g1 BIG y5.1.2.1 y5.1.1.2.1 y5.1.1.2.2.1) fun y6 =>
  forkB (!y6.2.1)
  (some ((⟨(0 : Int), ([] : List Int), ([] : List Int), ([] : List Int)⟩ : Bundle), (4 : Int)))
  (obind (ref19_wrong BIG (⟨y2.2.1, y3.2.1, y4.2.1, y5.2.1⟩ : Bundle)) fun y7 =>
   forkB (y7 != (0 : Int))
   (some ((⟨(0 : Int), ([] : List Int), ([] : List Int), ([] : List Int)⟩ : Bundle), (4 : Int)))
   (some ((⟨y2.2.1, y3.2.1, y4.2.1, y5.2.1⟩ : Bundle), (0 : Int)))) := by kernel_rfl
noncomputable def ref19Get_sp : FnSpec TT := ⟨[.val (.list (.int .u8))], [.val (.user 3), .val (.int .i64)], fun x => ref19Get BIG x⟩
theorem ref19Get_ok : FnOk TT Tryz.prog 98 ref19Get_sp := fnOk_of (C := ref19Get_C) (by kernel_rfl) ref19Get_env Tryz.func98 (show Tryz.f98.body = some (bodyOf Tryz.f98) by kernel_rfl) (by kernel_rfl) (by kernel_rfl) (cuts := ref19Get_cuts) fun x y h => ⟨BIG, h⟩
noncomputable def ref27_bundled_C : Ctx TT := ⟨tyOf, [(98, ref19Get_sp.toCall)], 0, [], layOf⟩
theorem ref27_bundled_env : EnvOk TT Tryz.prog ref27_bundled_C.E := envG (fnCall_ok ref19Get_ok) (envNil)
def ref27_bundled_cuts : List (Pos × Cut) := []
noncomputable def ref27_bundled (n : Nat) (x0 : Int) (x1 : List Int) : Option (Bool) := topF TT Tryz.prog ref27_bundled_C ref27_bundled_cuts Tryz.f58 (bodyOf Tryz.f58) ⟨[], []⟩ [.val (.int .i64), .val (.list (.int .u8))] [.val (.bool)] n (x0, x1)
theorem ref27_bundled_eq (n : Nat) (x0 : Int) (x1 : List Int) : ref27_bundled n x0 x1 =
  obind (ref19Get BIG x1) fun y1 =>
  forkB (y1.2 == (0 : Int))
  (some (y1.1.Version == x0))
  (some false) := by kernel_rfl
noncomputable def ref27_bundled_sp : FnSpec TT := ⟨[.val (.int .i64), .val (.list (.int .u8))], [.val (.bool)], fun x => ref27_bundled BIG x.1 x.2⟩
theorem ref27_bundled_ok : FnOk TT Tryz.prog 58 ref27_bundled_sp := fnOk_of (C := ref27_bundled_C) (by kernel_rfl) ref27_bundled_env Tryz.func58 (show Tryz.f58.body = some (bodyOf Tryz.f58) by kernel_rfl) (by kernel_rfl) (by kernel_rfl) (cuts := ref27_bundled_cuts) fun x y h => ⟨BIG, h⟩
noncomputable def ref27Find_C : Ctx TT := ⟨tyOf, [], 0, [], layOf⟩
theorem ref27Find_env : EnvOk TT Tryz.prog ref27Find_C.E := envNil
def ref27Find_cuts : List (Pos × Cut) := [([false, true, false, true], ⟨[1, 2, 5], [], false, []⟩)]
noncomputable def ref27Find (n : Nat) (x0 : Registry) (x1 : Int) : Option (Int) := topF TT Tryz.prog ref27Find_C ref27Find_cuts Tryz.f20 (bodyOf Tryz.f20) ⟨[], []⟩ [.val (.user 2), .val (.int .i64)] [.val (.int .i64)] n (x0, x1)
noncomputable def ref27Find_L0 (n : Nat) (s1 : Int) (s5 : Int) (b0_0 : List Held) (b0_1 : Int) (b0_2 : Int) (b0_3 : Int) (b0_4 : List Int) (b0_5 : Bool) : Option (Int) := cutF TT Tryz.prog ref27Find_C ref27Find_cuts Tryz.f20 (bodyOf Tryz.f20) ⟨[], []⟩ [.val (.user 2), .val (.int .i64)] [.val (.int .i64)] n [false, true, false, true] ⟨[(1, .cell ⟨.int .i64, s1⟩), (2, .ptr 0 0), (5, .cell ⟨.int .i64, s5⟩)], [.blk 31 [.cell ⟨.list (.user 1), b0_0⟩, .cell ⟨.int .i64, b0_1⟩, .cell ⟨.int .i64, b0_2⟩, .cell ⟨.int .i64, b0_3⟩, .cell ⟨.list (.int .i64), b0_4⟩, .cell ⟨.bool, b0_5⟩]]⟩
theorem ref27Find_eq (n : Nat) (x0 : Registry) (x1 : Int) : ref27Find n x0 x1 =
  ref27Find_L0 n x1 (0 : Int) x0.Held x0.Active x0.Before x0.Rollout x0.Yes x0.No := by kernel_rfl
theorem ref27Find_L0_eq (n : Nat) (s1 : Int) (s5 : Int) (b0_0 : List Held) (b0_1 : Int) (b0_2 : Int) (b0_3 : Int) (b0_4 : List Int) (b0_5 : Bool) : ref27Find_L0 (n + 1) s1 s5 b0_0 b0_1 b0_2 b0_3 b0_4 b0_5 =
  forkB (decide (s5 < ((b0_0.length : Nat) : Int)))
  (if 0 ≤ s5 ∧ s5 < ((b0_0.length : Nat) : Int) then (forkB (((b0_0.getD s5.toNat dHeld).Version) == s1)
   (some s5)
   (ref27Find_L0 n s1 (IntKind.i64.wrap (s5 + (1 : Int))) b0_0 b0_1 b0_2 b0_3 b0_4 b0_5)) else none)
  (some (-1 : Int)) := by kernel_rfl
noncomputable def ref27Find_sp : FnSpec TT := ⟨[.val (.user 2), .val (.int .i64)], [.val (.int .i64)], fun x => ref27Find BIG x.1 x.2⟩
theorem ref27Find_ok : FnOk TT Tryz.prog 20 ref27Find_sp := fnOk_of (C := ref27Find_C) (by kernel_rfl) ref27Find_env Tryz.func20 (show Tryz.f20.body = some (bodyOf Tryz.f20) by kernel_rfl) (by kernel_rfl) (by kernel_rfl) (cuts := ref27Find_cuts) fun x y h => ⟨BIG, h⟩
noncomputable def ref27Right_C : Ctx TT := ⟨tyOf, [(58, ref27_bundled_sp.toCall), (20, ref27Find_sp.toCall)], 0, [], layOf⟩
theorem ref27Right_env : EnvOk TT Tryz.prog ref27Right_C.E := envG (fnCall_ok ref27_bundled_ok) (envG (fnCall_ok ref27Find_ok) (envNil))
def ref27Right_cuts : List (Pos × Cut) := [([false, true], ⟨[0, 3, 15], [], false, []⟩), ([false, true, false, true, true], ⟨[0, 3, 5], [], false, []⟩), ([true, false, false, true, false, false, true, false, true, true], ⟨[0, 3, 5, 59], [], false, []⟩), ([false, true, false, true, true, true, true], ⟨[0, 3, 7, 8], [], false, []⟩), ([false, false, true, false, false, true, false, true, true, true, true], ⟨[0, 3, 7, 8, 84], [], false, []⟩), ([false, true, false, true, true, true, true, true], ⟨[0, 3, 9], [], false, []⟩), ([false, false, true, false, false, true, false, true, true, true, true, true], ⟨[0, 3, 9, 124], [], false, []⟩), ([false, true, true, true, true, true, true], ⟨[3, 144], [], false, []⟩)]
noncomputable def ref27Right (n : Nat) (x0 : Int) (x1 : Registry) : Option (Bool) := topF TT Tryz.prog ref27Right_C ref27Right_cuts Tryz.f24 (bodyOf Tryz.f24) ⟨[], []⟩ [.val (.int .i64), .val (.user 2)] [.val (.bool)] n (x0, x1)
noncomputable def ref27Right_J0 (n : Nat) (s0 : Int) (s15 : Bool) (b0_0 : List Held) (b0_1 : Int) (b0_2 : Int) (b0_3 : Int) (b0_4 : List Int) (b0_5 : Bool) : Option (Bool) := cutF TT Tryz.prog ref27Right_C ref27Right_cuts Tryz.f24 (bodyOf Tryz.f24) ⟨[], []⟩ [.val (.int .i64), .val (.user 2)] [.val (.bool)] n [false, true] ⟨[(0, .cell ⟨.int .i64, s0⟩), (3, .ptr 0 0), (15, .cell ⟨.bool, s15⟩)], [.blk 31 [.cell ⟨.list (.user 1), b0_0⟩, .cell ⟨.int .i64, b0_1⟩, .cell ⟨.int .i64, b0_2⟩, .cell ⟨.int .i64, b0_3⟩, .cell ⟨.list (.int .i64), b0_4⟩, .cell ⟨.bool, b0_5⟩]]⟩
noncomputable def ref27Right_L1 (n : Nat) (s0 : Int) (s5 : Int) (b0_0 : List Held) (b0_1 : Int) (b0_2 : Int) (b0_3 : Int) (b0_4 : List Int) (b0_5 : Bool) : Option (Bool) := cutF TT Tryz.prog ref27Right_C ref27Right_cuts Tryz.f24 (bodyOf Tryz.f24) ⟨[], []⟩ [.val (.int .i64), .val (.user 2)] [.val (.bool)] n [false, true, false, true, true] ⟨[(0, .cell ⟨.int .i64, s0⟩), (3, .ptr 0 0), (5, .cell ⟨.int .i64, s5⟩)], [.blk 31 [.cell ⟨.list (.user 1), b0_0⟩, .cell ⟨.int .i64, b0_1⟩, .cell ⟨.int .i64, b0_2⟩, .cell ⟨.int .i64, b0_3⟩, .cell ⟨.list (.int .i64), b0_4⟩, .cell ⟨.bool, b0_5⟩]]⟩
noncomputable def ref27Right_J2 (n : Nat) (s0 : Int) (s5 : Int) (s59 : Bool) (b0_0 : List Held) (b0_1 : Int) (b0_2 : Int) (b0_3 : Int) (b0_4 : List Int) (b0_5 : Bool) : Option (Bool) := cutF TT Tryz.prog ref27Right_C ref27Right_cuts Tryz.f24 (bodyOf Tryz.f24) ⟨[], []⟩ [.val (.int .i64), .val (.user 2)] [.val (.bool)] n [true, false, false, true, false, false, true, false, true, true] ⟨[(0, .cell ⟨.int .i64, s0⟩), (3, .ptr 0 0), (5, .cell ⟨.int .i64, s5⟩), (59, .cell ⟨.bool, s59⟩)], [.blk 31 [.cell ⟨.list (.user 1), b0_0⟩, .cell ⟨.int .i64, b0_1⟩, .cell ⟨.int .i64, b0_2⟩, .cell ⟨.int .i64, b0_3⟩, .cell ⟨.list (.int .i64), b0_4⟩, .cell ⟨.bool, b0_5⟩]]⟩
noncomputable def ref27Right_L3 (n : Nat) (s0 : Int) (s8 : Int) (b0_0 : List Held) (b0_1 : Int) (b0_2 : Int) (b0_3 : Int) (b0_4 : List Int) (b0_5 : Bool) (r1 : List Int) : Option (Bool) := cutF TT Tryz.prog ref27Right_C ref27Right_cuts Tryz.f24 (bodyOf Tryz.f24) ⟨[], []⟩ [.val (.int .i64), .val (.user 2)] [.val (.bool)] n [false, true, false, true, true, true, true] ⟨[(0, .cell ⟨.int .i64, s0⟩), (3, .ptr 0 0), (7, .own 1), (8, .cell ⟨.int .i64, s8⟩)], [.blk 31 [.cell ⟨.list (.user 1), b0_0⟩, .cell ⟨.int .i64, b0_1⟩, .cell ⟨.int .i64, b0_2⟩, .cell ⟨.int .i64, b0_3⟩, .cell ⟨.list (.int .i64), b0_4⟩, .cell ⟨.bool, b0_5⟩], .row 3 (.int .i64) r1]⟩
noncomputable def ref27Right_J4 (n : Nat) (s0 : Int) (s8 : Int) (s84 : Bool) (b0_0 : List Held) (b0_1 : Int) (b0_2 : Int) (b0_3 : Int) (b0_4 : List Int) (b0_5 : Bool) (r1 : List Int) : Option (Bool) := cutF TT Tryz.prog ref27Right_C ref27Right_cuts Tryz.f24 (bodyOf Tryz.f24) ⟨[], []⟩ [.val (.int .i64), .val (.user 2)] [.val (.bool)] n [false, false, true, false, false, true, false, true, true, true, true] ⟨[(0, .cell ⟨.int .i64, s0⟩), (3, .ptr 0 0), (7, .own 1), (8, .cell ⟨.int .i64, s8⟩), (84, .cell ⟨.bool, s84⟩)], [.blk 31 [.cell ⟨.list (.user 1), b0_0⟩, .cell ⟨.int .i64, b0_1⟩, .cell ⟨.int .i64, b0_2⟩, .cell ⟨.int .i64, b0_3⟩, .cell ⟨.list (.int .i64), b0_4⟩, .cell ⟨.bool, b0_5⟩], .row 3 (.int .i64) r1]⟩
noncomputable def ref27Right_L5 (n : Nat) (s0 : Int) (s9 : Int) (b0_0 : List Held) (b0_1 : Int) (b0_2 : Int) (b0_3 : Int) (b0_4 : List Int) (b0_5 : Bool) : Option (Bool) := cutF TT Tryz.prog ref27Right_C ref27Right_cuts Tryz.f24 (bodyOf Tryz.f24) ⟨[], []⟩ [.val (.int .i64), .val (.user 2)] [.val (.bool)] n [false, true, false, true, true, true, true, true] ⟨[(0, .cell ⟨.int .i64, s0⟩), (3, .ptr 0 0), (9, .cell ⟨.int .i64, s9⟩)], [.blk 31 [.cell ⟨.list (.user 1), b0_0⟩, .cell ⟨.int .i64, b0_1⟩, .cell ⟨.int .i64, b0_2⟩, .cell ⟨.int .i64, b0_3⟩, .cell ⟨.list (.int .i64), b0_4⟩, .cell ⟨.bool, b0_5⟩]]⟩
noncomputable def ref27Right_J6 (n : Nat) (s0 : Int) (s9 : Int) (s124 : Bool) (b0_0 : List Held) (b0_1 : Int) (b0_2 : Int) (b0_3 : Int) (b0_4 : List Int) (b0_5 : Bool) : Option (Bool) := cutF TT Tryz.prog ref27Right_C ref27Right_cuts Tryz.f24 (bodyOf Tryz.f24) ⟨[], []⟩ [.val (.int .i64), .val (.user 2)] [.val (.bool)] n [false, false, true, false, false, true, false, true, true, true, true, true] ⟨[(0, .cell ⟨.int .i64, s0⟩), (3, .ptr 0 0), (9, .cell ⟨.int .i64, s9⟩), (124, .cell ⟨.bool, s124⟩)], [.blk 31 [.cell ⟨.list (.user 1), b0_0⟩, .cell ⟨.int .i64, b0_1⟩, .cell ⟨.int .i64, b0_2⟩, .cell ⟨.int .i64, b0_3⟩, .cell ⟨.list (.int .i64), b0_4⟩, .cell ⟨.bool, b0_5⟩]]⟩
noncomputable def ref27Right_J7 (n : Nat) (s144 : Bool) (b0_0 : List Held) (b0_1 : Int) (b0_2 : Int) (b0_3 : Int) (b0_4 : List Int) (b0_5 : Bool) : Option (Bool) := cutF TT Tryz.prog ref27Right_C ref27Right_cuts Tryz.f24 (bodyOf Tryz.f24) ⟨[], []⟩ [.val (.int .i64), .val (.user 2)] [.val (.bool)] n [false, true, true, true, true, true, true] ⟨[(3, .ptr 0 0), (144, .cell ⟨.bool, s144⟩)], [.blk 31 [.cell ⟨.list (.user 1), b0_0⟩, .cell ⟨.int .i64, b0_1⟩, .cell ⟨.int .i64, b0_2⟩, .cell ⟨.int .i64, b0_3⟩, .cell ⟨.list (.int .i64), b0_4⟩, .cell ⟨.bool, b0_5⟩]]⟩
theorem ref27Right_eq (n : Nat) (x0 : Int) (x1 : Registry) : ref27Right n x0 x1 =
  forkA (decide (x0 < (1 : Int)))
  (ref27Right_J0 n x0 true x1.Held x1.Active x1.Before x1.Rollout x1.Yes x1.No)
  (ref27Right_J0 n x0 (pickB false true (decide (x0 > (7 : Int)))) x1.Held x1.Active x1.Before x1.Rollout x1.Yes x1.No) := by kernel_rfl
theorem ref27Right_J0_eq (n : Nat) (s0 : Int) (s15 : Bool) (b0_0 : List Held) (b0_1 : Int) (b0_2 : Int) (b0_3 : Int) (b0_4 : List Int) (b0_5 : Bool) : ref27Right_J0 (n + 1) s0 s15 b0_0 b0_1 b0_2 b0_3 b0_4 b0_5 =
  forkA s15
  (some false)
  (ref27Right_L1 n s0 (0 : Int) b0_0 b0_1 b0_2 b0_3 b0_4 b0_5) := by kernel_rfl
theorem ref27Right_L1_eq (n : Nat) (s0 : Int) (s5 : Int) (b0_0 : List Held) (b0_1 : Int) (b0_2 : Int) (b0_3 : Int) (b0_4 : List Int) (b0_5 : Bool) : ref27Right_L1 (n + 1) s0 s5 b0_0 b0_1 b0_2 b0_3 b0_4 b0_5 =
  forkA (decide (s5 < ((b0_0.length : Nat) : Int)))
  (if 0 ≤ s5 ∧ s5 < ((b0_0.length : Nat) : Int) then (forkA (decide (((b0_0.getD s5.toNat dHeld).Version) < (1 : Int)))
   (ref27Right_J2 n s0 s5 true b0_0 b0_1 b0_2 b0_3 b0_4 b0_5)
   (forkA (pickB false true (decide (((b0_0.getD s5.toNat dHeld).Version) > (1073741824 : Int))))
    (ref27Right_J2 n s0 s5 true b0_0 b0_1 b0_2 b0_3 b0_4 b0_5)
    (forkA (decide (s5 > (0 : Int)))
     (if 0 ≤ IntKind.i64.wrap (s5 - (1 : Int)) ∧ IntKind.i64.wrap (s5 - (1 : Int)) < ((b0_0.length : Nat) : Int) then (forkA (pickB false true (pickB true (decide (((b0_0.getD ((IntKind.i64.wrap (s5 - (1 : Int))).toNat) dHeld).Version) ≥ ((b0_0.getD s5.toNat dHeld).Version))) false))
      (ref27Right_J2 n s0 s5 true b0_0 b0_1 b0_2 b0_3 b0_4 b0_5)
      (obind (ref27_bundled BIG ((b0_0.getD s5.toNat dHeld).Version) ((b0_0.getD s5.toNat dHeld).Data)) fun y1 =>
       ref27Right_J2 n s0 s5 (pickB false true (!y1)) b0_0 b0_1 b0_2 b0_3 b0_4 b0_5)) else none)
     (forkA (pickB false true false)
      (ref27Right_J2 n s0 s5 true b0_0 b0_1 b0_2 b0_3 b0_4 b0_5)
      (obind (ref27_bundled BIG ((b0_0.getD s5.toNat dHeld).Version) ((b0_0.getD s5.toNat dHeld).Data)) fun y2 =>
       ref27Right_J2 n s0 s5 (pickB false true (!y2)) b0_0 b0_1 b0_2 b0_3 b0_4 b0_5))))) else none)
  (ref27Right_L3 n s0 (0 : Int) b0_0 b0_1 b0_2 b0_3 b0_4 b0_5 ([b0_1, b0_2, b0_3] : List Int)) := by kernel_rfl
theorem ref27Right_J2_eq (n : Nat) (s0 : Int) (s5 : Int) (s59 : Bool) (b0_0 : List Held) (b0_1 : Int) (b0_2 : Int) (b0_3 : Int) (b0_4 : List Int) (b0_5 : Bool) : ref27Right_J2 (n + 1) s0 s5 s59 b0_0 b0_1 b0_2 b0_3 b0_4 b0_5 =
  forkA s59
  (some false)
  (ref27Right_L1 n s0 (IntKind.i64.wrap (s5 + (1 : Int))) b0_0 b0_1 b0_2 b0_3 b0_4 b0_5) := by kernel_rfl
theorem ref27Right_L3_eq (n : Nat) (s0 : Int) (s8 : Int) (b0_0 : List Held) (b0_1 : Int) (b0_2 : Int) (b0_3 : Int) (b0_4 : List Int) (b0_5 : Bool) (r1 : List Int) : ref27Right_L3 (n + 1) s0 s8 b0_0 b0_1 b0_2 b0_3 b0_4 b0_5 r1 =
  forkA (decide (s8 < (3 : Int)))
  (if 0 ≤ s8 ∧ s8 < ((r1.length : Nat) : Int) then (forkA ((r1.getD s8.toNat (0 : Int)) != (0 : Int))
   (if 0 ≤ s8 ∧ s8 < ((r1.length : Nat) : Int) then (obind (ref27Find BIG (⟨b0_0, b0_1, b0_2, b0_3, b0_4, b0_5⟩ : Registry) (r1.getD s8.toNat (0 : Int))) fun y1 =>
    ref27Right_J4 n s0 s8 (pickB true (decide (y1 < (0 : Int))) false) b0_0 b0_1 b0_2 b0_3 b0_4 b0_5 r1) else none)
   (ref27Right_J4 n s0 s8 false b0_0 b0_1 b0_2 b0_3 b0_4 b0_5 r1)) else none)
  (ref27Right_L5 n s0 (0 : Int) b0_0 b0_1 b0_2 b0_3 b0_4 b0_5) := by kernel_rfl
theorem ref27Right_J4_eq (n : Nat) (s0 : Int) (s8 : Int) (s84 : Bool) (b0_0 : List Held) (b0_1 : Int) (b0_2 : Int) (b0_3 : Int) (b0_4 : List Int) (b0_5 : Bool) (r1 : List Int) : ref27Right_J4 (n + 1) s0 s8 s84 b0_0 b0_1 b0_2 b0_3 b0_4 b0_5 r1 =
  forkA s84
  (some false)
  (ref27Right_L3 n s0 (IntKind.i64.wrap (s8 + (1 : Int))) b0_0 b0_1 b0_2 b0_3 b0_4 b0_5 r1) := by kernel_rfl
theorem ref27Right_L5_eq (n : Nat) (s0 : Int) (s9 : Int) (b0_0 : List Held) (b0_1 : Int) (b0_2 : Int) (b0_3 : Int) (b0_4 : List Int) (b0_5 : Bool) : ref27Right_L5 (n + 1) s0 s9 b0_0 b0_1 b0_2 b0_3 b0_4 b0_5 =
  forkA (decide (s9 < ((b0_4.length : Nat) : Int)))
  (if 0 ≤ s9 ∧ s9 < ((b0_4.length : Nat) : Int) then (forkA (decide ((b0_4.getD s9.toNat (0 : Int)) < (1 : Int)))
   (ref27Right_J6 n s0 s9 true b0_0 b0_1 b0_2 b0_3 b0_4 b0_5)
   (if 0 ≤ s9 ∧ s9 < ((b0_4.length : Nat) : Int) then (forkA (pickB false true (decide ((b0_4.getD s9.toNat (0 : Int)) > s0)))
    (ref27Right_J6 n s0 s9 true b0_0 b0_1 b0_2 b0_3 b0_4 b0_5)
    (forkA (decide (s9 > (0 : Int)))
     (if 0 ≤ IntKind.i64.wrap (s9 - (1 : Int)) ∧ IntKind.i64.wrap (s9 - (1 : Int)) < ((b0_4.length : Nat) : Int) then (if 0 ≤ s9 ∧ s9 < ((b0_4.length : Nat) : Int) then (ref27Right_J6 n s0 s9 (pickB false true (pickB true (decide ((b0_4.getD ((IntKind.i64.wrap (s9 - (1 : Int))).toNat) (0 : Int)) ≥ (b0_4.getD s9.toNat (0 : Int)))) false)) b0_0 b0_1 b0_2 b0_3 b0_4 b0_5) else none) else none)
     (ref27Right_J6 n s0 s9 (pickB false true false) b0_0 b0_1 b0_2 b0_3 b0_4 b0_5))) else none)) else none)
  (forkA (b0_1 == (0 : Int))
   (forkA (pickB true (b0_2 != (0 : Int)) false)
    (ref27Right_J7 n true b0_0 b0_1 b0_2 b0_3 b0_4 b0_5)
    (forkA (b0_3 != (0 : Int))
     (ref27Right_J7 n (pickB false true (pickB true (b0_3 == b0_1) false)) b0_0 b0_1 b0_2 b0_3 b0_4 b0_5)
     (ref27Right_J7 n (pickB false true false) b0_0 b0_1 b0_2 b0_3 b0_4 b0_5)))
   (forkA (b0_3 != (0 : Int))
    (ref27Right_J7 n (pickB false true (pickB true (b0_3 == b0_1) false)) b0_0 b0_1 b0_2 b0_3 b0_4 b0_5)
    (ref27Right_J7 n (pickB false true false) b0_0 b0_1 b0_2 b0_3 b0_4 b0_5))) := by kernel_rfl
theorem ref27Right_J6_eq (n : Nat) (s0 : Int) (s9 : Int) (s124 : Bool) (b0_0 : List Held) (b0_1 : Int) (b0_2 : Int) (b0_3 : Int) (b0_4 : List Int) (b0_5 : Bool) : ref27Right_J6 (n + 1) s0 s9 s124 b0_0 b0_1 b0_2 b0_3 b0_4 b0_5 =
  forkA s124
  (some false)
  (ref27Right_L5 n s0 (IntKind.i64.wrap (s9 + (1 : Int))) b0_0 b0_1 b0_2 b0_3 b0_4 b0_5) := by kernel_rfl
theorem ref27Right_J7_eq (n : Nat) (s144 : Bool) (b0_0 : List Held) (b0_1 : Int) (b0_2 : Int) (b0_3 : Int) (b0_4 : List Int) (b0_5 : Bool) : ref27Right_J7 (n + 1) s144 b0_0 b0_1 b0_2 b0_3 b0_4 b0_5 =
  forkA s144
  (some false)
  (forkA (b0_3 != (0 : Int))
   (some true)
   (forkA (((b0_4.length : Nat) : Int) == (0 : Int))
    (some (pickB false true (pickB true (!b0_5) false)))
    (some (pickB false true false)))) := by kernel_rfl
noncomputable def ref27Right_sp : FnSpec TT := ⟨[.val (.int .i64), .val (.user 2)], [.val (.bool)], fun x => ref27Right BIG x.1 x.2⟩
theorem ref27Right_ok : FnOk TT Tryz.prog 24 ref27Right_sp := fnOk_of (C := ref27Right_C) (by kernel_rfl) ref27Right_env Tryz.func24 (show Tryz.f24.body = some (bodyOf Tryz.f24) by kernel_rfl) (by kernel_rfl) (by kernel_rfl) (cuts := ref27Right_cuts) fun x y h => ⟨BIG, h⟩
noncomputable def law27RegistryRight_C : Ctx TT := ⟨tyOf, [(6, law27_awake_sp.toCall), (23, registryRight_sp.toCall), (24, ref27Right_sp.toCall)], 0, [], layOf⟩
theorem law27RegistryRight_env : EnvOk TT Tryz.prog law27RegistryRight_C.E := envG (fnCall_ok law27_awake_ok) (envG (fnCall_ok registryRight_ok) (envG (fnCall_ok ref27Right_ok) (envNil)))
def law27RegistryRight_cuts : List (Pos × Cut) := [([false, true, false, true, true, true], ⟨[0, 3, 5, 6], [], false, []⟩), ([false, false, false, true, false, true, true, true], ⟨[0, 3, 5, 6, 17], [], false, []⟩), ([false, true, true, true, true], ⟨[0, 3, 38], [], false, []⟩)]
noncomputable def law27RegistryRight (n : Nat) (x0 : Int) (x1 : Registry) : Option (Bool) := topF TT Tryz.prog law27RegistryRight_C law27RegistryRight_cuts Tryz.f4 (bodyOf Tryz.f4) ⟨[], []⟩ [.val (.int .i64), .val (.user 2)] [.val (.bool)] n (x0, x1)
noncomputable def law27RegistryRight_L0 (n : Nat) (s0 : Int) (s5 : Int) (s6 : Int) (b0_0 : List Held) (b0_1 : Int) (b0_2 : Int) (b0_3 : Int) (b0_4 : List Int) (b0_5 : Bool) : Option (Bool) := cutF TT Tryz.prog law27RegistryRight_C law27RegistryRight_cuts Tryz.f4 (bodyOf Tryz.f4) ⟨[], []⟩ [.val (.int .i64), .val (.user 2)] [.val (.bool)] n [false, true, false, true, true, true] ⟨[(0, .cell ⟨.int .i64, s0⟩), (3, .ptr 0 0), (5, .cell ⟨.int .i64, s5⟩), (6, .cell ⟨.int .i64, s6⟩)], [.blk 31 [.cell ⟨.list (.user 1), b0_0⟩, .cell ⟨.int .i64, b0_1⟩, .cell ⟨.int .i64, b0_2⟩, .cell ⟨.int .i64, b0_3⟩, .cell ⟨.list (.int .i64), b0_4⟩, .cell ⟨.bool, b0_5⟩]]⟩
noncomputable def law27RegistryRight_J1 (n : Nat) (s0 : Int) (s5 : Int) (s6 : Int) (s17 : Bool) (b0_0 : List Held) (b0_1 : Int) (b0_2 : Int) (b0_3 : Int) (b0_4 : List Int) (b0_5 : Bool) : Option (Bool) := cutF TT Tryz.prog law27RegistryRight_C law27RegistryRight_cuts Tryz.f4 (bodyOf Tryz.f4) ⟨[], []⟩ [.val (.int .i64), .val (.user 2)] [.val (.bool)] n [false, false, false, true, false, true, true, true] ⟨[(0, .cell ⟨.int .i64, s0⟩), (3, .ptr 0 0), (5, .cell ⟨.int .i64, s5⟩), (6, .cell ⟨.int .i64, s6⟩), (17, .cell ⟨.bool, s17⟩)], [.blk 31 [.cell ⟨.list (.user 1), b0_0⟩, .cell ⟨.int .i64, b0_1⟩, .cell ⟨.int .i64, b0_2⟩, .cell ⟨.int .i64, b0_3⟩, .cell ⟨.list (.int .i64), b0_4⟩, .cell ⟨.bool, b0_5⟩]]⟩
noncomputable def law27RegistryRight_J2 (n : Nat) (s0 : Int) (s38 : Bool) (b0_0 : List Held) (b0_1 : Int) (b0_2 : Int) (b0_3 : Int) (b0_4 : List Int) (b0_5 : Bool) : Option (Bool) := cutF TT Tryz.prog law27RegistryRight_C law27RegistryRight_cuts Tryz.f4 (bodyOf Tryz.f4) ⟨[], []⟩ [.val (.int .i64), .val (.user 2)] [.val (.bool)] n [false, true, true, true, true] ⟨[(0, .cell ⟨.int .i64, s0⟩), (3, .ptr 0 0), (38, .cell ⟨.bool, s38⟩)], [.blk 31 [.cell ⟨.list (.user 1), b0_0⟩, .cell ⟨.int .i64, b0_1⟩, .cell ⟨.int .i64, b0_2⟩, .cell ⟨.int .i64, b0_3⟩, .cell ⟨.list (.int .i64), b0_4⟩, .cell ⟨.bool, b0_5⟩]]⟩
theorem law27RegistryRight_eq (n : Nat) (x0 : Int) (x1 : Registry) : law27RegistryRight n x0 x1 =
  obind (law27_awake BIG ) fun y1 =>
  forkB (!y1)
  (some false)
  (law27RegistryRight_L0 n x0 (0 : Int) (0 : Int) x1.Held x1.Active x1.Before x1.Rollout x1.Yes x1.No) := by kernel_rfl
theorem law27RegistryRight_L0_eq (n : Nat) (s0 : Int) (s5 : Int) (s6 : Int) (b0_0 : List Held) (b0_1 : Int) (b0_2 : Int) (b0_3 : Int) (b0_4 : List Int) (b0_5 : Bool) : law27RegistryRight_L0 (n + 1) s0 s5 s6 b0_0 b0_1 b0_2 b0_3 b0_4 b0_5 =
  forkB (decide (s6 < ((b0_0.length : Nat) : Int)))
  (law27RegistryRight_J1 n s0 s5 s6 (decide (s5 < (6000 : Int))) b0_0 b0_1 b0_2 b0_3 b0_4 b0_5)
  (law27RegistryRight_J1 n s0 s5 s6 false b0_0 b0_1 b0_2 b0_3 b0_4 b0_5) := by kernel_rfl
theorem law27RegistryRight_J1_eq (n : Nat) (s0 : Int) (s5 : Int) (s6 : Int) (s17 : Bool) (b0_0 : List Held) (b0_1 : Int) (b0_2 : Int) (b0_3 : Int) (b0_4 : List Int) (b0_5 : Bool) : law27RegistryRight_J1 (n + 1) s0 s5 s6 s17 b0_0 b0_1 b0_2 b0_3 b0_4 b0_5 =
  forkB s17
  (if 0 ≤ s6 ∧ s6 < ((b0_0.length : Nat) : Int) then (law27RegistryRight_L0 n s0 (IntKind.i64.wrap ((IntKind.i64.wrap (s5 + (1 : Int))) + (gMin ((((b0_0.getD s6.toNat dHeld).Data).length : Nat) : Int) (6000 : Int)))) (IntKind.i64.wrap (s6 + (1 : Int))) b0_0 b0_1 b0_2 b0_3 b0_4 b0_5) else none)
  (forkB (decide (s5 ≥ (6000 : Int)))
   (law27RegistryRight_J2 n s0 true b0_0 b0_1 b0_2 b0_3 b0_4 b0_5)
   (law27RegistryRight_J2 n s0 (decide (((b0_4.length : Nat) : Int) > (100 : Int))) b0_0 b0_1 b0_2 b0_3 b0_4 b0_5)) := by kernel_rfl
theorem law27RegistryRight_J2_eq (n : Nat) (s0 : Int) (s38 : Bool) (b0_0 : List Held) (b0_1 : Int) (b0_2 : Int) (b0_3 : Int) (b0_4 : List Int) (b0_5 : Bool) : law27RegistryRight_J2 (n + 1) s0 s38 b0_0 b0_1 b0_2 b0_3 b0_4 b0_5 =
  forkB s38
  (some true)
  (obind (registryRight BIG s0 (⟨b0_0, b0_1, b0_2, b0_3, b0_4, b0_5⟩ : Registry)) fun y1 =>
   obind (ref27Right BIG s0 (⟨b0_0, b0_1, b0_2, b0_3, b0_4, b0_5⟩ : Registry)) fun y2 =>
   some (y1 == y2)) := by kernel_rfl
noncomputable def law27RegistryRight_sp : FnSpec TT := ⟨[.val (.int .i64), .val (.user 2)], [.val (.bool)], fun x => law27RegistryRight BIG x.1 x.2⟩
theorem law27RegistryRight_ok : FnOk TT Tryz.prog 4 law27RegistryRight_sp := fnOk_of (C := law27RegistryRight_C) (by kernel_rfl) law27RegistryRight_env Tryz.func4 (show Tryz.f4.body = some (bodyOf Tryz.f4) by kernel_rfl) (by kernel_rfl) (by kernel_rfl) (cuts := law27RegistryRight_cuts) fun x y h => ⟨BIG, h⟩
end Go.X
