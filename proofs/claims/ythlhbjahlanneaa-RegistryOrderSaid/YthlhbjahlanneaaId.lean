/- The law RegistryOrder. -/
import Derived.Test.YthlhbjahlanneaaIc
namespace Go.X
open Go.RowKit Go.V Go.Proofs
noncomputable def kitPick_C : Ctx TT := ⟨tyOf, [], 0, [], layOf⟩
theorem kitPick_env : EnvOk TT Try.prog kitPick_C.E := envNil
def kitPick_cuts : List (Pos × Cut) := []
noncomputable def kitPick (n : Nat) (x0 : Int) (x1 : Int) : Option (Int) := topF TT Try.prog kitPick_C kitPick_cuts Try.f7 (bodyOf Try.f7) ⟨[], []⟩ [.val (.int .i64), .val (.int .i64)] [.val (.int .i64)] n (x0, x1)
theorem kitPick_eq (n : Nat) (x0 : Int) (x1 : Int) : kitPick n x0 x1 =
  forkB (decide (x1 < (1 : Int)))
  (some (0 : Int))
  (if x1 = 0 then none else (forkB (decide ((x0.tmod x1) < (0 : Int)))
   (some (IntKind.i64.wrap ((x0.tmod x1) + x1)))
   (some (x0.tmod x1)))) := by kernel_rfl
noncomputable def kitPick_sp : FnSpec TT := ⟨[.val (.int .i64), .val (.int .i64)], [.val (.int .i64)], fun x => kitPick BIG x.1 x.2⟩
theorem kitPick_ok : FnOk TT Try.prog 7 kitPick_sp := fnOk_of (C := kitPick_C) (by kernel_rfl) kitPick_env Try.func7 (show Try.f7.body = some (bodyOf Try.f7) by kernel_rfl) (by kernel_rfl) (by kernel_rfl) (cuts := kitPick_cuts) fun x y h => ⟨BIG, h⟩
noncomputable def law27RegistryOrder_C : Ctx TT := ⟨tyOf, [(5, law27_awake_sp.toCall), (6, law27_light_sp.toCall), (7, kitPick_sp.toCall), (8, registryNew_g1a2_sp.toCall (noCall TT)), (9, registryMachineApply_g4_sp.toCall (registryMachineApply_g3_sp.toCall (registryMachineApply_g2_sp.toCall (registryMachineApply_g1_sp.toCall (noCall TT))))), (10, registryMachineState_g3_sp.toCall (registryMachineState_g2_sp.toCall (registryMachineState_g1_sp.toCall (noCall TT)))), (11, kitSameRegistry_sp.toCall)], 0, [(10, 1), (15, 1)], layOf⟩
theorem law27RegistryOrder_env : EnvOk TT Try.prog law27RegistryOrder_C.E := envG (fnCall_ok law27_awake_ok) (envG (fnCall_ok law27_light_ok) (envG (fnCall_ok kitPick_ok) (envG (gCall_ok registryNew_g1a2_ok (noCall_ok 8)) (envG (gCall_ok registryMachineApply_g4_ok (gCall_ok registryMachineApply_g3_ok (gCall_ok registryMachineApply_g2_ok (gCall_ok registryMachineApply_g1_ok (noCall_ok 9))))) (envG (gCall_ok registryMachineState_g3_ok (gCall_ok registryMachineState_g2_ok (gCall_ok registryMachineState_g1_ok (noCall_ok 10)))) (envG (fnCall_ok kitSameRegistry_ok) (envNil)))))))
def law27RegistryOrder_cuts : List (Pos × Cut) := [([false, true, false, true, true, true, true, true], ⟨[1, 6, 7, 8], [], false, []⟩), ([true, false, false, true, false, true, true, true, true, true], ⟨[1, 6, 7, 8], [], false, []⟩)]
noncomputable def law27RegistryOrder (n : Nat) (x0 : Int) (x1 : List Entry) : Option (Bool) := topF TT Try.prog law27RegistryOrder_C law27RegistryOrder_cuts Try.f3 (bodyOf Try.f3) ⟨[], []⟩ [.val (.int .i64), .val (.list (.user 0))] [.val (.bool)] n (x0, x1)
noncomputable def law27RegistryOrder_L0 (n : Nat) (s1 : List Entry) (s8 : Int) (b0_0 : Int) (b0_2 : Int) (b0_3 : Int) (b0_4 : Int) (b0_6 : Bool) (b1_0 : Int) (b1_2 : Int) (b1_3 : Int) (b1_4 : Int) (b1_6 : Bool) (t2 : List (Int × List Int)) (t3 : List (Int × Bool)) (t4 : List (Int × List Int)) (t5 : List (Int × Bool)) : Option (Bool) := cutF TT Try.prog law27RegistryOrder_C law27RegistryOrder_cuts Try.f3 (bodyOf Try.f3) ⟨[], []⟩ [.val (.int .i64), .val (.list (.user 0))] [.val (.bool)] n [false, true, false, true, true, true, true, true] ⟨[(1, .cell ⟨.list (.user 0), s1⟩), (6, .ptr 0 0), (7, .ptr 1 0), (8, .cell ⟨.int .i64, s8⟩)], [.blk 44 [.cell ⟨.int .i64, b0_0⟩, .mp 2, .cell ⟨.int .i64, b0_2⟩, .cell ⟨.int .i64, b0_3⟩, .cell ⟨.int .i64, b0_4⟩, .mp 3, .cell ⟨.bool, b0_6⟩], .blk 44 [.cell ⟨.int .i64, b1_0⟩, .mp 4, .cell ⟨.int .i64, b1_2⟩, .cell ⟨.int .i64, b1_3⟩, .cell ⟨.int .i64, b1_4⟩, .mp 5, .cell ⟨.bool, b1_6⟩], .tmap .i64 (.list (.int .u8)) t2, .tmap .i64 (.bool) t3, .tmap .i64 (.list (.int .u8)) t4, .tmap .i64 (.bool) t5]⟩
noncomputable def law27RegistryOrder_J1 (n : Nat) (s1 : List Entry) (s8 : Int) (b0_0 : Int) (b0_2 : Int) (b0_3 : Int) (b0_4 : Int) (b0_6 : Bool) (b1_0 : Int) (b1_2 : Int) (b1_3 : Int) (b1_4 : Int) (b1_6 : Bool) (t2 : List (Int × List Int)) (t3 : List (Int × Bool)) (t4 : List (Int × List Int)) (t5 : List (Int × Bool)) : Option (Bool) := cutF TT Try.prog law27RegistryOrder_C law27RegistryOrder_cuts Try.f3 (bodyOf Try.f3) ⟨[], []⟩ [.val (.int .i64), .val (.list (.user 0))] [.val (.bool)] n [true, false, false, true, false, true, true, true, true, true] ⟨[(1, .cell ⟨.list (.user 0), s1⟩), (6, .ptr 0 0), (7, .ptr 1 0), (8, .cell ⟨.int .i64, s8⟩)], [.blk 44 [.cell ⟨.int .i64, b0_0⟩, .mp 2, .cell ⟨.int .i64, b0_2⟩, .cell ⟨.int .i64, b0_3⟩, .cell ⟨.int .i64, b0_4⟩, .mp 3, .cell ⟨.bool, b0_6⟩], .blk 44 [.cell ⟨.int .i64, b1_0⟩, .mp 4, .cell ⟨.int .i64, b1_2⟩, .cell ⟨.int .i64, b1_3⟩, .cell ⟨.int .i64, b1_4⟩, .mp 5, .cell ⟨.bool, b1_6⟩], .tmap .i64 (.list (.int .u8)) t2, .tmap .i64 (.bool) t3, .tmap .i64 (.list (.int .u8)) t4, .tmap .i64 (.bool) t5]⟩
theorem law27RegistryOrder_eq (n : Nat) (x0 : Int) (x1 : List Entry) : law27RegistryOrder n x0 x1 =
  obind (law27_awake BIG ) fun y1 =>
  forkB (!y1)
  (some false)
  (obind (law27_light BIG x1) fun y2 =>
   forkB (!y2)
   (some true)
   (obind (kitPick BIG x0 (7 : Int)) fun y3 =>
    obind (registryNew_g1a2 BIG (IntKind.i64.wrap ((1 : Int) + y3))) fun y4 =>
    obind (registryNew_g1a2 BIG (IntKind.i64.wrap ((1 : Int) + y3))) fun y5 =>
    law27RegistryOrder_L0 n x1 (0 : Int) y4.2.1.1 y4.2.1.2.2.1 y4.2.1.2.2.2.1 y4.2.1.2.2.2.2.1 y4.2.1.2.2.2.2.2.2.1 y5.2.1.1 y5.2.1.2.2.1 y5.2.1.2.2.2.1 y5.2.1.2.2.2.2.1 y5.2.1.2.2.2.2.2.2.1 y4.2.1.2.1 y4.2.1.2.2.2.2.2.1 y5.2.1.2.1 y5.2.1.2.2.2.2.2.1)) := by kernel_rfl
theorem law27RegistryOrder_L0_eq (n : Nat) (s1 : List Entry) (s8 : Int) (b0_0 : Int) (b0_2 : Int) (b0_3 : Int) (b0_4 : Int) (b0_6 : Bool) (b1_0 : Int) (b1_2 : Int) (b1_3 : Int) (b1_4 : Int) (b1_6 : Bool) (t2 : List (Int × List Int)) (t3 : List (Int × Bool)) (t4 : List (Int × List Int)) (t5 : List (Int × Bool)) : law27RegistryOrder_L0 (n + 1) s1 s8 b0_0 b0_2 b0_3 b0_4 b0_6 b1_0 b1_2 b1_3 b1_4 b1_6 t2 t3 t4 t5 =
  forkB (decide (s8 < ((s1.length : Nat) : Int)))
  (if 0 ≤ s8 ∧ s8 < ((s1.length : Nat) : Int) then (obind (registryMachineApply_g2 BIG b0_0 t2 b0_2 b0_3 b0_4 t3 b0_6 (s1.getD s8.toNat dEntry)) fun y1 =>
   if 0 ≤ s8 ∧ s8 < ((s1.length : Nat) : Int) then (obind (registryMachineApply_g2 BIG b1_0 t4 b1_2 b1_3 b1_4 t5 b1_6 (s1.getD s8.toNat dEntry)) fun y2 =>
   forkB (y1.2.1 != y2.2.1)
   (some false)
   (if 0 ≤ s8 ∧ s8 < ((s1.length : Nat) : Int) then (forkB (((s1.getD s8.toNat dEntry).Kind) != (6 : Int))
    (obind (registryMachineState_g1 BIG y2.1.1.1 y2.1.2.1 y2.1.1.2.2.1 y2.1.1.2.2.2.1 y2.1.1.2.2.2.2.1 y2.1.2.2.1 y2.1.1.2.2.2.2.2.2.1) fun y3 =>
     if 0 ≤ s8 ∧ s8 < ((s1.length : Nat) : Int) then (obind (registryMachineApply_g2 BIG y3.1.1.1 y3.1.2.1 y3.1.1.2.2.1 y3.1.1.2.2.2.1 y3.1.1.2.2.2.2.1 y3.1.2.2.1 y3.1.1.2.2.2.2.2.2.1 (s1.getD s8.toNat dEntry)) fun y4 =>
     obind (registryMachineState_g1 BIG y4.1.1.1 y4.1.2.1 y4.1.1.2.2.1 y4.1.1.2.2.2.1 y4.1.1.2.2.2.2.1 y4.1.2.2.1 y4.1.1.2.2.2.2.2.2.1) fun y5 =>
     obind (kitSameRegistry BIG y3.2.1 y5.2.1) fun y6 =>
     forkB (!y6)
     (some false)
     (law27RegistryOrder_J1 n s1 s8 y1.1.1.1 y1.1.1.2.2.1 y1.1.1.2.2.2.1 y1.1.1.2.2.2.2.1 y1.1.1.2.2.2.2.2.2.1 y5.1.1.1 y5.1.1.2.2.1 y5.1.1.2.2.2.1 y5.1.1.2.2.2.2.1 y5.1.1.2.2.2.2.2.2.1 y1.1.2.1 y1.1.2.2.1 y5.1.2.1 y5.1.2.2.1)) else none)
    (law27RegistryOrder_J1 n s1 s8 y1.1.1.1 y1.1.1.2.2.1 y1.1.1.2.2.2.1 y1.1.1.2.2.2.2.1 y1.1.1.2.2.2.2.2.2.1 y2.1.1.1 y2.1.1.2.2.1 y2.1.1.2.2.2.1 y2.1.1.2.2.2.2.1 y2.1.1.2.2.2.2.2.2.1 y1.1.2.1 y1.1.2.2.1 y2.1.2.1 y2.1.2.2.1)) else none)) else none) else none)
  (obind (registryMachineState_g1 BIG b0_0 t2 b0_2 b0_3 b0_4 t3 b0_6) fun y7 =>
   obind (registryMachineState_g1 BIG b1_0 t4 b1_2 b1_3 b1_4 t5 b1_6) fun y8 =>
   obind (kitSameRegistry BIG y7.2.1 y8.2.1) fun y9 =>
   some y9) := by kernel_rfl
theorem law27RegistryOrder_J1_eq (n : Nat) (s1 : List Entry) (s8 : Int) (b0_0 : Int) (b0_2 : Int) (b0_3 : Int) (b0_4 : Int) (b0_6 : Bool) (b1_0 : Int) (b1_2 : Int) (b1_3 : Int) (b1_4 : Int) (b1_6 : Bool) (t2 : List (Int × List Int)) (t3 : List (Int × Bool)) (t4 : List (Int × List Int)) (t5 : List (Int × Bool)) : law27RegistryOrder_J1 (n + 1) s1 s8 b0_0 b0_2 b0_3 b0_4 b0_6 b1_0 b1_2 b1_3 b1_4 b1_6 t2 t3 t4 t5 =
  law27RegistryOrder_L0 n s1 (IntKind.i64.wrap (s8 + (1 : Int))) b0_0 b0_2 b0_3 b0_4 b0_6 b1_0 b1_2 b1_3 b1_4 b1_6 t2 t3 t4 t5 := by kernel_rfl
noncomputable def law27RegistryOrder_sp : FnSpec TT := ⟨[.val (.int .i64), .val (.list (.user 0))], [.val (.bool)], fun x => law27RegistryOrder BIG x.1 x.2⟩
theorem law27RegistryOrder_ok : FnOk TT Try.prog 3 law27RegistryOrder_sp := fnOk_of (C := law27RegistryOrder_C) (by kernel_rfl) law27RegistryOrder_env Try.func3 (show Try.f3.body = some (bodyOf Try.f3) by kernel_rfl) (by kernel_rfl) (by kernel_rfl) (cuts := law27RegistryOrder_cuts) fun x y h => ⟨BIG, h⟩
end Go.X
