/- The law RegistryNone. -/
import Derived.Test.YthlhbjahlanneaaIb
namespace Go.X
open Go.RowKit Go.V Go.Proofs
noncomputable def registryMachine_there_g2_C : Ctx TT := ⟨tyOf, [], 0, [], layOf⟩
theorem registryMachine_there_g2_env : EnvOk TT Try.prog registryMachine_there_g2_C.E := envNil
def registryMachine_there_g2_cuts : List (Pos × Cut) := []
noncomputable def registryMachine_there_g2 (n : Nat)  : Option ((Unit) × (Bool × Unit)) := topG TT Try.prog registryMachine_there_g2_C registryMachine_there_g2_cuts Try.f17 (bodyOf Try.f17) ⟨[], [], [], [], []⟩ [.nilp] [] [.val (.bool)] n ((), ())
theorem registryMachine_there_g2_eq (n : Nat)  : registryMachine_there_g2 n  =
  some ((), (false, ())) := by kernel_rfl
noncomputable def registryMachine_there_g2_sp : GSpec TT := ⟨[.nilp], [], [.val (.bool)], fun _ => registryMachine_there_g2 BIG ⟩
theorem registryMachine_there_g2_ok : GOk TT Try.prog 17 registryMachine_there_g2_sp := gOk_of (C := registryMachine_there_g2_C) (cuts := registryMachine_there_g2_cuts) (by kernel_rfl) registryMachine_there_g2_env Try.func17 (show Try.f17.body = some (bodyOf Try.f17) by kernel_rfl) (by kernel_rfl) (by kernel_rfl) (by kernel_rfl) fun x y h => ⟨BIG, h⟩
noncomputable def registryMachineWants_g2_C : Ctx TT := ⟨tyOf, [(17, registryMachine_there_g2_sp.toCall (registryMachine_there_g1_sp.toCall (noCall TT)))], 0, [], layOf⟩
theorem registryMachineWants_g2_env : EnvOk TT Try.prog registryMachineWants_g2_C.E := envG (gCall_ok registryMachine_there_g2_ok (gCall_ok registryMachine_there_g1_ok (noCall_ok 17))) (envNil)
def registryMachineWants_g2_cuts : List (Pos × Cut) := [([false, false, true], ⟨[0, 2, 4], [], false, [(0, 5, 5, .int .u8)]⟩)]
noncomputable def registryMachineWants_g2 (n : Nat)  : Option ((Unit) × ((Int × Int × Int × Int × Bool × Unit × Unit) × Bool × Unit)) := topG TT Try.prog registryMachineWants_g2_C registryMachineWants_g2_cuts Try.f12 (bodyOf Try.f12) ⟨[], [], [], [], []⟩ [.nilp] [] [.agg [.val (.int .i64), .val (.int .u8), .val (.int .i64), .val (.int .i64), .val (.bool), .nils], .val (.bool)] n ((), ())
noncomputable def registryMachineWants_g2_J0 (n : Nat) (s4 : Bool) (b0_0 : Int) (b0_1 : Int) (b0_2 : Int) (b0_3 : Int) (b0_4 : Bool) (r1 : List Int) : Option ((Unit) × ((Int × Int × Int × Int × Bool × Unit × Unit) × Bool × Unit)) := cutG TT Try.prog registryMachineWants_g2_C registryMachineWants_g2_cuts Try.f12 (bodyOf Try.f12) ⟨[], [], [], [], []⟩ [] [.agg [.val (.int .i64), .val (.int .u8), .val (.int .i64), .val (.int .i64), .val (.bool), .nils], .val (.bool)] n [false, false, true] ⟨[(0, .raw (.pointer none)), (2, .ptr 0 0), (4, .cell ⟨.bool, s4⟩)], [.blk 33 [.cell ⟨.int .i64, b0_0⟩, .cell ⟨.int .u8, b0_1⟩, .cell ⟨.int .i64, b0_2⟩, .cell ⟨.int .i64, b0_3⟩, .cell ⟨.bool, b0_4⟩, .own 1], .row 5 (.int .u8) r1]⟩
theorem registryMachineWants_g2_eq (n : Nat)  : registryMachineWants_g2 n  =
  obind (registryMachine_there_g2 BIG ) fun y1 =>
  forkB (!y1.2.1)
  (registryMachineWants_g2_J0 n true (0 : Int) (0 : Int) (0 : Int) (0 : Int) false ([] : List Int))
  (none) := by kernel_rfl
theorem registryMachineWants_g2_J0_eq (n : Nat) (s4 : Bool) (b0_0 : Int) (b0_1 : Int) (b0_2 : Int) (b0_3 : Int) (b0_4 : Bool) (r1 : List Int) : registryMachineWants_g2_J0 (n + 1) s4 b0_0 b0_1 b0_2 b0_3 b0_4 r1 =
  forkB s4
  (some ((), (((0 : Int), (0 : Int), (0 : Int), (0 : Int), false, (), ()), false, ())))
  (none) := by kernel_rfl
noncomputable def registryMachineWants_g2_sp : GSpec TT := ⟨[.nilp], [], [.agg [.val (.int .i64), .val (.int .u8), .val (.int .i64), .val (.int .i64), .val (.bool), .nils], .val (.bool)], fun _ => registryMachineWants_g2 BIG ⟩
theorem registryMachineWants_g2_ok : GOk TT Try.prog 12 registryMachineWants_g2_sp := gOk_of (C := registryMachineWants_g2_C) (cuts := registryMachineWants_g2_cuts) (by kernel_rfl) registryMachineWants_g2_env Try.func12 (show Try.f12.body = some (bodyOf Try.f12) by kernel_rfl) (by kernel_rfl) (by kernel_rfl) (by kernel_rfl) fun x y h => ⟨BIG, h⟩
noncomputable def registryMachineFind_g1_C : Ctx TT := ⟨tyOf, [(17, registryMachine_there_g2_sp.toCall (registryMachine_there_g1_sp.toCall (noCall TT)))], 0, [], layOf⟩
theorem registryMachineFind_g1_env : EnvOk TT Try.prog registryMachineFind_g1_C.E := envG (gCall_ok registryMachine_there_g2_ok (gCall_ok registryMachine_there_g1_ok (noCall_ok 17))) (envNil)
def registryMachineFind_g1_cuts : List (Pos × Cut) := []
noncomputable def registryMachineFind_g1 (n : Nat) (x0 : Int) : Option ((Unit) × (Unit × Bool × Unit)) := topG TT Try.prog registryMachineFind_g1_C registryMachineFind_g1_cuts Try.f13 (bodyOf Try.f13) ⟨[], [], [], [], []⟩ [.nilp, .val (.int .i64)] [] [.nils, .val (.bool)] n ((), x0, ())
theorem registryMachineFind_g1_eq (n : Nat) (x0 : Int) : registryMachineFind_g1 n x0 =
  obind (registryMachine_there_g2 BIG ) fun y1 =>
  forkB (!y1.2.1)
  (some ((), ((), false, ())))
  (none) := by kernel_rfl
noncomputable def registryMachineFind_g1_sp : GSpec TT := ⟨[.nilp, .val (.int .i64)], [], [.nils, .val (.bool)], fun x => registryMachineFind_g1 BIG x.2.1⟩
theorem registryMachineFind_g1_ok : GOk TT Try.prog 13 registryMachineFind_g1_sp := gOk_of (C := registryMachineFind_g1_C) (cuts := registryMachineFind_g1_cuts) (by kernel_rfl) registryMachineFind_g1_env Try.func13 (show Try.f13.body = some (bodyOf Try.f13) by kernel_rfl) (by kernel_rfl) (by kernel_rfl) (by kernel_rfl) fun x y h => ⟨BIG, h⟩
noncomputable def registryMachine_noop_g3_C : Ctx TT := ⟨tyOf, [], 0, [], layOf⟩
theorem registryMachine_noop_g3_env : EnvOk TT Try.prog registryMachine_noop_g3_C.E := envNil
def registryMachine_noop_g3_cuts : List (Pos × Cut) := []
noncomputable def registryMachine_noop_g3 (n : Nat) (x0 : Entry) : Option ((Unit) × (Int × Unit)) := topG TT Try.prog registryMachine_noop_g3_C registryMachine_noop_g3_cuts Try.f18 (bodyOf Try.f18) ⟨[], [], [], [], []⟩ [.nilp, .val (.user 0)] [] [.val (.int .i64)] n ((), x0, ())
theorem registryMachine_noop_g3_eq (n : Nat) (x0 : Entry) : registryMachine_noop_g3 n x0 =
  some ((), ((0 : Int), ())) := by kernel_rfl
noncomputable def registryMachine_noop_g3_sp : GSpec TT := ⟨[.nilp, .val (.user 0)], [], [.val (.int .i64)], fun x => registryMachine_noop_g3 BIG x.2.1⟩
theorem registryMachine_noop_g3_ok : GOk TT Try.prog 18 registryMachine_noop_g3_sp := gOk_of (C := registryMachine_noop_g3_C) (cuts := registryMachine_noop_g3_cuts) (by kernel_rfl) registryMachine_noop_g3_env Try.func18 (show Try.f18.body = some (bodyOf Try.f18) by kernel_rfl) (by kernel_rfl) (by kernel_rfl) (by kernel_rfl) fun x y h => ⟨BIG, h⟩
noncomputable def registryMachine_ack_g3_C : Ctx TT := ⟨tyOf, [], 0, [], layOf⟩
theorem registryMachine_ack_g3_env : EnvOk TT Try.prog registryMachine_ack_g3_C.E := envNil
def registryMachine_ack_g3_cuts : List (Pos × Cut) := [([false, false, true], ⟨[0, 3, 8], [], false, []⟩)]
noncomputable def registryMachine_ack_g3 (n : Nat) (x0 : Entry) : Option ((Unit) × (Int × Unit)) := topG TT Try.prog registryMachine_ack_g3_C registryMachine_ack_g3_cuts Try.f21 (bodyOf Try.f21) ⟨[], [], [], [], []⟩ [.nilp, .val (.user 0)] [] [.val (.int .i64)] n ((), x0, ())
noncomputable def registryMachine_ack_g3_J0 (n : Nat) (s8 : Bool) (b0_0 : Int) (b0_1 : Int) (b0_2 : Int) (b0_3 : Int) (b0_4 : Bool) (b0_5 : List Int) : Option ((Unit) × (Int × Unit)) := cutG TT Try.prog registryMachine_ack_g3_C registryMachine_ack_g3_cuts Try.f21 (bodyOf Try.f21) ⟨[], [], [], [], []⟩ [] [.val (.int .i64)] n [false, false, true] ⟨[(0, .raw (.pointer none)), (3, .ptr 0 0), (8, .cell ⟨.bool, s8⟩)], [.blk 33 [.cell ⟨.int .i64, b0_0⟩, .cell ⟨.int .u8, b0_1⟩, .cell ⟨.int .i64, b0_2⟩, .cell ⟨.int .i64, b0_3⟩, .cell ⟨.bool, b0_4⟩, .cell ⟨.list (.int .u8), b0_5⟩]]⟩
theorem registryMachine_ack_g3_eq (n : Nat) (x0 : Entry) : registryMachine_ack_g3 n x0 =
  forkB (decide (x0.Version < (1 : Int)))
  (registryMachine_ack_g3_J0 n true x0.Term x0.Kind x0.Version x0.Server x0.Good x0.Data)
  (none) := by kernel_rfl
theorem registryMachine_ack_g3_J0_eq (n : Nat) (s8 : Bool) (b0_0 : Int) (b0_1 : Int) (b0_2 : Int) (b0_3 : Int) (b0_4 : Bool) (b0_5 : List Int) : registryMachine_ack_g3_J0 (n + 1) s8 b0_0 b0_1 b0_2 b0_3 b0_4 b0_5 =
  forkB s8
  (some ((), ((6 : Int), ())))
  (none) := by kernel_rfl
noncomputable def registryMachine_ack_g3_sp : GSpec TT := ⟨[.nilp, .val (.user 0)], [], [.val (.int .i64)], fun x => registryMachine_ack_g3 BIG x.2.1⟩
theorem registryMachine_ack_g3_ok : GOk TT Try.prog 21 registryMachine_ack_g3_sp := gOk_of (C := registryMachine_ack_g3_C) (cuts := registryMachine_ack_g3_cuts) (by kernel_rfl) registryMachine_ack_g3_env Try.func21 (show Try.f21.body = some (bodyOf Try.f21) by kernel_rfl) (by kernel_rfl) (by kernel_rfl) (by kernel_rfl) fun x y h => ⟨BIG, h⟩
noncomputable def registryMachine_activate_g3_C : Ctx TT := ⟨tyOf, [], 0, [], layOf⟩
theorem registryMachine_activate_g3_env : EnvOk TT Try.prog registryMachine_activate_g3_C.E := envNil
def registryMachine_activate_g3_cuts : List (Pos × Cut) := [([false, false, true], ⟨[0, 3, 5], [], false, []⟩)]
noncomputable def registryMachine_activate_g3 (n : Nat) (x0 : Entry) : Option ((Unit) × (Int × Unit)) := topG TT Try.prog registryMachine_activate_g3_C registryMachine_activate_g3_cuts Try.f22 (bodyOf Try.f22) ⟨[], [], [], [], []⟩ [.nilp, .val (.user 0)] [] [.val (.int .i64)] n ((), x0, ())
noncomputable def registryMachine_activate_g3_J0 (n : Nat) (s5 : Bool) (b0_0 : Int) (b0_1 : Int) (b0_2 : Int) (b0_3 : Int) (b0_4 : Bool) (b0_5 : List Int) : Option ((Unit) × (Int × Unit)) := cutG TT Try.prog registryMachine_activate_g3_C registryMachine_activate_g3_cuts Try.f22 (bodyOf Try.f22) ⟨[], [], [], [], []⟩ [] [.val (.int .i64)] n [false, false, true] ⟨[(0, .raw (.pointer none)), (3, .ptr 0 0), (5, .cell ⟨.bool, s5⟩)], [.blk 33 [.cell ⟨.int .i64, b0_0⟩, .cell ⟨.int .u8, b0_1⟩, .cell ⟨.int .i64, b0_2⟩, .cell ⟨.int .i64, b0_3⟩, .cell ⟨.bool, b0_4⟩, .cell ⟨.list (.int .u8), b0_5⟩]]⟩
theorem registryMachine_activate_g3_eq (n : Nat) (x0 : Entry) : registryMachine_activate_g3 n x0 =
  forkB (decide (x0.Version < (1 : Int)))
  (registryMachine_activate_g3_J0 n true x0.Term x0.Kind x0.Version x0.Server x0.Good x0.Data)
  (none) := by kernel_rfl
theorem registryMachine_activate_g3_J0_eq (n : Nat) (s5 : Bool) (b0_0 : Int) (b0_1 : Int) (b0_2 : Int) (b0_3 : Int) (b0_4 : Bool) (b0_5 : List Int) : registryMachine_activate_g3_J0 (n + 1) s5 b0_0 b0_1 b0_2 b0_3 b0_4 b0_5 =
  forkB s5
  (some ((), ((6 : Int), ())))
  (none) := by kernel_rfl
noncomputable def registryMachine_activate_g3_sp : GSpec TT := ⟨[.nilp, .val (.user 0)], [], [.val (.int .i64)], fun x => registryMachine_activate_g3 BIG x.2.1⟩
theorem registryMachine_activate_g3_ok : GOk TT Try.prog 22 registryMachine_activate_g3_sp := gOk_of (C := registryMachine_activate_g3_C) (cuts := registryMachine_activate_g3_cuts) (by kernel_rfl) registryMachine_activate_g3_env Try.func22 (show Try.f22.body = some (bodyOf Try.f22) by kernel_rfl) (by kernel_rfl) (by kernel_rfl) (by kernel_rfl) fun x y h => ⟨BIG, h⟩
noncomputable def registryMachine_rollback_g3_C : Ctx TT := ⟨tyOf, [], 0, [], layOf⟩
theorem registryMachine_rollback_g3_env : EnvOk TT Try.prog registryMachine_rollback_g3_C.E := envNil
def registryMachine_rollback_g3_cuts : List (Pos × Cut) := [([false, false, true], ⟨[0, 3, 7], [], false, []⟩)]
noncomputable def registryMachine_rollback_g3 (n : Nat) (x0 : Entry) : Option ((Unit) × (Int × Unit)) := topG TT Try.prog registryMachine_rollback_g3_C registryMachine_rollback_g3_cuts Try.f23 (bodyOf Try.f23) ⟨[], [], [], [], []⟩ [.nilp, .val (.user 0)] [] [.val (.int .i64)] n ((), x0, ())
noncomputable def registryMachine_rollback_g3_J0 (n : Nat) (s7 : Bool) (b0_0 : Int) (b0_1 : Int) (b0_2 : Int) (b0_3 : Int) (b0_4 : Bool) (b0_5 : List Int) : Option ((Unit) × (Int × Unit)) := cutG TT Try.prog registryMachine_rollback_g3_C registryMachine_rollback_g3_cuts Try.f23 (bodyOf Try.f23) ⟨[], [], [], [], []⟩ [] [.val (.int .i64)] n [false, false, true] ⟨[(0, .raw (.pointer none)), (3, .ptr 0 0), (7, .cell ⟨.bool, s7⟩)], [.blk 33 [.cell ⟨.int .i64, b0_0⟩, .cell ⟨.int .u8, b0_1⟩, .cell ⟨.int .i64, b0_2⟩, .cell ⟨.int .i64, b0_3⟩, .cell ⟨.bool, b0_4⟩, .cell ⟨.list (.int .u8), b0_5⟩]]⟩
theorem registryMachine_rollback_g3_eq (n : Nat) (x0 : Entry) : registryMachine_rollback_g3 n x0 =
  forkB (decide (x0.Version < (1 : Int)))
  (registryMachine_rollback_g3_J0 n true x0.Term x0.Kind x0.Version x0.Server x0.Good x0.Data)
  (none) := by kernel_rfl
theorem registryMachine_rollback_g3_J0_eq (n : Nat) (s7 : Bool) (b0_0 : Int) (b0_1 : Int) (b0_2 : Int) (b0_3 : Int) (b0_4 : Bool) (b0_5 : List Int) : registryMachine_rollback_g3_J0 (n + 1) s7 b0_0 b0_1 b0_2 b0_3 b0_4 b0_5 =
  forkB s7
  (some ((), ((6 : Int), ())))
  (none) := by kernel_rfl
noncomputable def registryMachine_rollback_g3_sp : GSpec TT := ⟨[.nilp, .val (.user 0)], [], [.val (.int .i64)], fun x => registryMachine_rollback_g3 BIG x.2.1⟩
theorem registryMachine_rollback_g3_ok : GOk TT Try.prog 23 registryMachine_rollback_g3_sp := gOk_of (C := registryMachine_rollback_g3_C) (cuts := registryMachine_rollback_g3_cuts) (by kernel_rfl) registryMachine_rollback_g3_env Try.func23 (show Try.f23.body = some (bodyOf Try.f23) by kernel_rfl) (by kernel_rfl) (by kernel_rfl) (by kernel_rfl) fun x y h => ⟨BIG, h⟩
noncomputable def registryMachineApply_g3_C : Ctx TT := ⟨tyOf, [(17, registryMachine_there_g2_sp.toCall (registryMachine_there_g1_sp.toCall (noCall TT))), (18, registryMachine_noop_g3_sp.toCall (registryMachine_noop_g2_sp.toCall (registryMachine_noop_g1_sp.toCall (noCall TT)))), (21, registryMachine_ack_g3_sp.toCall (registryMachine_ack_g2_sp.toCall (registryMachine_ack_g1_sp.toCall (noCall TT)))), (22, registryMachine_activate_g3_sp.toCall (registryMachine_activate_g2_sp.toCall (registryMachine_activate_g1_sp.toCall (noCall TT)))), (23, registryMachine_rollback_g3_sp.toCall (registryMachine_rollback_g2_sp.toCall (registryMachine_rollback_g1_sp.toCall (noCall TT))))], 0, [], layOf⟩
theorem registryMachineApply_g3_env : EnvOk TT Try.prog registryMachineApply_g3_C.E := envG (gCall_ok registryMachine_there_g2_ok (gCall_ok registryMachine_there_g1_ok (noCall_ok 17))) (envG (gCall_ok registryMachine_noop_g3_ok (gCall_ok registryMachine_noop_g2_ok (gCall_ok registryMachine_noop_g1_ok (noCall_ok 18)))) (envG (gCall_ok registryMachine_ack_g3_ok (gCall_ok registryMachine_ack_g2_ok (gCall_ok registryMachine_ack_g1_ok (noCall_ok 21)))) (envG (gCall_ok registryMachine_activate_g3_ok (gCall_ok registryMachine_activate_g2_ok (gCall_ok registryMachine_activate_g1_ok (noCall_ok 22)))) (envG (gCall_ok registryMachine_rollback_g3_ok (gCall_ok registryMachine_rollback_g2_ok (gCall_ok registryMachine_rollback_g1_ok (noCall_ok 23)))) (envNil)))))
def registryMachineApply_g3_cuts : List (Pos × Cut) := []
noncomputable def registryMachineApply_g3 (n : Nat) (x0 : Entry) : Option ((Unit) × (Int × Unit)) := topG TT Try.prog registryMachineApply_g3_C registryMachineApply_g3_cuts Try.f9 (bodyOf Try.f9) ⟨[], [], [], [], []⟩ [.nilp, .val (.user 0)] [] [.val (.int .i64)] n ((), x0, ())
theorem registryMachineApply_g3_eq (n : Nat) (x0 : Entry) : registryMachineApply_g3 n x0 =
  obind (registryMachine_there_g2 BIG ) fun y1 =>
  forkB (!y1.2.1)
  (some ((), ((1 : Int), ())))
  (if x0.Kind = (1 : Int) then (obind (registryMachine_noop_g3 BIG x0) fun y2 =>
    some ((), (y2.2.1, ()))) else (if x0.Kind = (2 : Int) then (none) else (if x0.Kind = (3 : Int) then (none) else (if x0.Kind = (4 : Int) then (obind (registryMachine_ack_g3 BIG x0) fun y3 =>
       some ((), (y3.2.1, ()))) else (if x0.Kind = (5 : Int) then (obind (registryMachine_activate_g3 BIG x0) fun y4 =>
        some ((), (y4.2.1, ()))) else (if x0.Kind = (6 : Int) then (obind (registryMachine_rollback_g3 BIG x0) fun y5 =>
         some ((), (y5.2.1, ()))) else (some ((), ((2 : Int), ()))))))))) := by kernel_rfl
noncomputable def registryMachineApply_g3_sp : GSpec TT := ⟨[.nilp, .val (.user 0)], [], [.val (.int .i64)], fun x => registryMachineApply_g3 BIG x.2.1⟩
theorem registryMachineApply_g3_ok : GOk TT Try.prog 9 registryMachineApply_g3_sp := gOk_of (C := registryMachineApply_g3_C) (cuts := registryMachineApply_g3_cuts) (by kernel_rfl) registryMachineApply_g3_env Try.func9 (show Try.f9.body = some (bodyOf Try.f9) by kernel_rfl) (by kernel_rfl) (by kernel_rfl) (by kernel_rfl) fun x y h => ⟨BIG, h⟩
noncomputable def registryMachineState_g2_C : Ctx TT := ⟨tyOf, [(17, registryMachine_there_g2_sp.toCall (registryMachine_there_g1_sp.toCall (noCall TT)))], 0, [(3, 1)], layOf⟩
theorem registryMachineState_g2_env : EnvOk TT Try.prog registryMachineState_g2_C.E := envG (gCall_ok registryMachine_there_g2_ok (gCall_ok registryMachine_there_g1_ok (noCall_ok 17))) (envNil)
def registryMachineState_g2_cuts : List (Pos × Cut) := []
noncomputable def registryMachineState_g2 (n : Nat)  : Option ((Unit) × ((Unit × Int × Int × Int × Unit × Bool × Unit) × Unit)) := topG TT Try.prog registryMachineState_g2_C registryMachineState_g2_cuts Try.f10 (bodyOf Try.f10) ⟨[], [], [], [], []⟩ [.nilp] [] [.agg [.nils, .val (.int .i64), .val (.int .i64), .val (.int .i64), .nils, .val (.bool)]] n ((), ())
theorem registryMachineState_g2_eq (n : Nat)  : registryMachineState_g2 n  =
  obind (registryMachine_there_g2 BIG ) fun y1 =>
  forkB (!y1.2.1)
  (some ((), (((), (0 : Int), (0 : Int), (0 : Int), (), false, ()), ())))
  (none) := by kernel_rfl
noncomputable def registryMachineState_g2_sp : GSpec TT := ⟨[.nilp], [], [.agg [.nils, .val (.int .i64), .val (.int .i64), .val (.int .i64), .nils, .val (.bool)]], fun _ => registryMachineState_g2 BIG ⟩
theorem registryMachineState_g2_ok : GOk TT Try.prog 10 registryMachineState_g2_sp := gOk_of (C := registryMachineState_g2_C) (cuts := registryMachineState_g2_cuts) (by kernel_rfl) registryMachineState_g2_env Try.func10 (show Try.f10.body = some (bodyOf Try.f10) by kernel_rfl) (by kernel_rfl) (by kernel_rfl) (by kernel_rfl) fun x y h => ⟨BIG, h⟩
noncomputable def registryMachine_there_g3_C : Ctx TT := ⟨tyOf, [], 1, [], layOf⟩
theorem registryMachine_there_g3_env : EnvOk TT Try.prog registryMachine_there_g3_C.E := envNil
def registryMachine_there_g3_cuts : List (Pos × Cut) := []
noncomputable def registryMachine_there_g3 (n : Nat) (x0 : Int) (x1 : Int) (x2 : Int) (x3 : Int) (x4 : Bool) : Option (((Int × Unit × Int × Int × Int × Unit × Bool × Unit) × Unit) × (Bool × Unit)) := topG TT Try.prog registryMachine_there_g3_C registryMachine_there_g3_cuts Try.f17 (bodyOf Try.f17) ⟨[], [], [], [], []⟩ [.ptr 0 44 [.val (.int .i64), .rw 2, .val (.int .i64), .val (.int .i64), .val (.int .i64), .rw 2, .val (.bool)]] [.blk 44 [.val (.int .i64), .rw 2, .val (.int .i64), .val (.int .i64), .val (.int .i64), .rw 2, .val (.bool)]] [.val (.bool)] n ((x0, (), x1, x2, x3, (), x4, ()), ())
theorem registryMachine_there_g3_eq (n : Nat) (x0 : Int) (x1 : Int) (x2 : Int) (x3 : Int) (x4 : Bool) : registryMachine_there_g3 n x0 x1 x2 x3 x4 =
  some (((x0, (), x1, x2, x3, (), x4, ()), ()), (decide (x0 > (0 : Int)), ())) := by kernel_rfl
noncomputable def registryMachine_there_g3_sp : GSpec TT := ⟨[.ptr 0 44 [.val (.int .i64), .rw 2, .val (.int .i64), .val (.int .i64), .val (.int .i64), .rw 2, .val (.bool)]], [.blk 44 [.val (.int .i64), .rw 2, .val (.int .i64), .val (.int .i64), .val (.int .i64), .rw 2, .val (.bool)]], [.val (.bool)], fun x => registryMachine_there_g3 BIG x.1.1 x.1.2.2.1 x.1.2.2.2.1 x.1.2.2.2.2.1 x.1.2.2.2.2.2.2.1⟩
theorem registryMachine_there_g3_ok : GOk TT Try.prog 17 registryMachine_there_g3_sp := gOk_of (C := registryMachine_there_g3_C) (cuts := registryMachine_there_g3_cuts) (by kernel_rfl) registryMachine_there_g3_env Try.func17 (show Try.f17.body = some (bodyOf Try.f17) by kernel_rfl) (by kernel_rfl) (by kernel_rfl) (by kernel_rfl) fun x y h => ⟨BIG, h⟩
noncomputable def registryMachineWants_g3_C : Ctx TT := ⟨tyOf, [(17, registryMachine_there_g3_sp.toCall (registryMachine_there_g2_sp.toCall (registryMachine_there_g1_sp.toCall (noCall TT))))], 1, [], layOf⟩
theorem registryMachineWants_g3_env : EnvOk TT Try.prog registryMachineWants_g3_C.E := envG (gCall_ok registryMachine_there_g3_ok (gCall_ok registryMachine_there_g2_ok (gCall_ok registryMachine_there_g1_ok (noCall_ok 17)))) (envNil)
def registryMachineWants_g3_cuts : List (Pos × Cut) := [([false, false, true], ⟨[0, 2, 4], [], false, [(1, 5, 5, .int .u8)]⟩)]
noncomputable def registryMachineWants_g3 (n : Nat) (x0 : Int) (x1 : Int) (x2 : Int) (x3 : Int) (x4 : Bool) : Option (((Int × Unit × Int × Int × Int × Unit × Bool × Unit) × Unit) × ((Int × Int × Int × Int × Bool × Unit × Unit) × Bool × Unit)) := topG TT Try.prog registryMachineWants_g3_C registryMachineWants_g3_cuts Try.f12 (bodyOf Try.f12) ⟨[], [], [], [], []⟩ [.ptr 0 44 [.val (.int .i64), .rw 2, .val (.int .i64), .val (.int .i64), .val (.int .i64), .rw 2, .val (.bool)]] [.blk 44 [.val (.int .i64), .rw 2, .val (.int .i64), .val (.int .i64), .val (.int .i64), .rw 2, .val (.bool)]] [.agg [.val (.int .i64), .val (.int .u8), .val (.int .i64), .val (.int .i64), .val (.bool), .nils], .val (.bool)] n ((x0, (), x1, x2, x3, (), x4, ()), ())
noncomputable def registryMachineWants_g3_J0 (n : Nat) (s4 : Bool) (b0_0 : Int) (b0_2 : Int) (b0_3 : Int) (b0_4 : Int) (b0_6 : Bool) (b1_0 : Int) (b1_1 : Int) (b1_2 : Int) (b1_3 : Int) (b1_4 : Bool) (r2 : List Int) : Option (((Int × Unit × Int × Int × Int × Unit × Bool × Unit) × Unit) × ((Int × Int × Int × Int × Bool × Unit × Unit) × Bool × Unit)) := cutG TT Try.prog registryMachineWants_g3_C registryMachineWants_g3_cuts Try.f12 (bodyOf Try.f12) ⟨[], [], [], [], []⟩ [.blk 44 [.val (.int .i64), .rw 2, .val (.int .i64), .val (.int .i64), .val (.int .i64), .rw 2, .val (.bool)]] [.agg [.val (.int .i64), .val (.int .u8), .val (.int .i64), .val (.int .i64), .val (.bool), .nils], .val (.bool)] n [false, false, true] ⟨[(0, .ptr 0 0), (2, .ptr 1 0), (4, .cell ⟨.bool, s4⟩)], [.blk 44 [.cell ⟨.int .i64, b0_0⟩, .raw (rawV 2), .cell ⟨.int .i64, b0_2⟩, .cell ⟨.int .i64, b0_3⟩, .cell ⟨.int .i64, b0_4⟩, .raw (rawV 2), .cell ⟨.bool, b0_6⟩], .blk 33 [.cell ⟨.int .i64, b1_0⟩, .cell ⟨.int .u8, b1_1⟩, .cell ⟨.int .i64, b1_2⟩, .cell ⟨.int .i64, b1_3⟩, .cell ⟨.bool, b1_4⟩, .own 2], .row 5 (.int .u8) r2]⟩
theorem registryMachineWants_g3_eq (n : Nat) (x0 : Int) (x1 : Int) (x2 : Int) (x3 : Int) (x4 : Bool) : registryMachineWants_g3 n x0 x1 x2 x3 x4 =
  obind (registryMachine_there_g3 BIG x0 x1 x2 x3 x4) fun y1 =>
  forkB (!y1.2.1)
  (registryMachineWants_g3_J0 n true y1.1.1.1 y1.1.1.2.2.1 y1.1.1.2.2.2.1 y1.1.1.2.2.2.2.1 y1.1.1.2.2.2.2.2.2.1 (0 : Int) (0 : Int) (0 : Int) (0 : Int) false ([] : List Int))
  (registryMachineWants_g3_J0 n (y1.1.1.2.2.2.2.1 == (0 : Int)) y1.1.1.1 y1.1.1.2.2.1 y1.1.1.2.2.2.1 y1.1.1.2.2.2.2.1 y1.1.1.2.2.2.2.2.2.1 (0 : Int) (0 : Int) (0 : Int) (0 : Int) false ([] : List Int)) := by kernel_rfl
theorem registryMachineWants_g3_J0_eq (n : Nat) (s4 : Bool) (b0_0 : Int) (b0_2 : Int) (b0_3 : Int) (b0_4 : Int) (b0_6 : Bool) (b1_0 : Int) (b1_1 : Int) (b1_2 : Int) (b1_3 : Int) (b1_4 : Bool) (r2 : List Int) : registryMachineWants_g3_J0 (n + 1) s4 b0_0 b0_2 b0_3 b0_4 b0_6 b1_0 b1_1 b1_2 b1_3 b1_4 r2 =
  forkB s4
  (some (((b0_0, (), b0_2, b0_3, b0_4, (), b0_6, ()), ()), (((0 : Int), (0 : Int), (0 : Int), (0 : Int), false, (), ()), false, ())))
  (forkB b0_6
   (some (((b0_0, (), b0_2, b0_3, b0_4, (), b0_6, ()), ()), (((0 : Int), (6 : Int), b0_4, (0 : Int), false, (), ()), true, ())))
   (none)) := by kernel_rfl
noncomputable def registryMachineWants_g3_sp : GSpec TT := ⟨[.ptr 0 44 [.val (.int .i64), .rw 2, .val (.int .i64), .val (.int .i64), .val (.int .i64), .rw 2, .val (.bool)]], [.blk 44 [.val (.int .i64), .rw 2, .val (.int .i64), .val (.int .i64), .val (.int .i64), .rw 2, .val (.bool)]], [.agg [.val (.int .i64), .val (.int .u8), .val (.int .i64), .val (.int .i64), .val (.bool), .nils], .val (.bool)], fun x => registryMachineWants_g3 BIG x.1.1 x.1.2.2.1 x.1.2.2.2.1 x.1.2.2.2.2.1 x.1.2.2.2.2.2.2.1⟩
theorem registryMachineWants_g3_ok : GOk TT Try.prog 12 registryMachineWants_g3_sp := gOk_of (C := registryMachineWants_g3_C) (cuts := registryMachineWants_g3_cuts) (by kernel_rfl) registryMachineWants_g3_env Try.func12 (show Try.f12.body = some (bodyOf Try.f12) by kernel_rfl) (by kernel_rfl) (by kernel_rfl) (by kernel_rfl) fun x y h => ⟨BIG, h⟩
noncomputable def registryMachineFind_g2_C : Ctx TT := ⟨tyOf, [(17, registryMachine_there_g3_sp.toCall (registryMachine_there_g2_sp.toCall (registryMachine_there_g1_sp.toCall (noCall TT))))], 1, [], layOf⟩
theorem registryMachineFind_g2_env : EnvOk TT Try.prog registryMachineFind_g2_C.E := envG (gCall_ok registryMachine_there_g3_ok (gCall_ok registryMachine_there_g2_ok (gCall_ok registryMachine_there_g1_ok (noCall_ok 17)))) (envNil)
def registryMachineFind_g2_cuts : List (Pos × Cut) := []
noncomputable def registryMachineFind_g2 (n : Nat) (x0 : Int) (x1 : Int) (x2 : Int) (x3 : Int) (x4 : Bool) (x5 : Int) : Option (((Int × Unit × Int × Int × Int × Unit × Bool × Unit) × Unit) × (Unit × Bool × Unit)) := topG TT Try.prog registryMachineFind_g2_C registryMachineFind_g2_cuts Try.f13 (bodyOf Try.f13) ⟨[], [], [], [], []⟩ [.ptr 0 44 [.val (.int .i64), .rw 2, .val (.int .i64), .val (.int .i64), .val (.int .i64), .rw 2, .val (.bool)], .val (.int .i64)] [.blk 44 [.val (.int .i64), .rw 2, .val (.int .i64), .val (.int .i64), .val (.int .i64), .rw 2, .val (.bool)]] [.nils, .val (.bool)] n ((x0, (), x1, x2, x3, (), x4, ()), x5, ())
theorem registryMachineFind_g2_eq (n : Nat) (x0 : Int) (x1 : Int) (x2 : Int) (x3 : Int) (x4 : Bool) (x5 : Int) : registryMachineFind_g2 n x0 x1 x2 x3 x4 x5 =
  obind (registryMachine_there_g3 BIG x0 x1 x2 x3 x4) fun y1 =>
  forkB (!y1.2.1)
  (some (((y1.1.1.1, (), y1.1.1.2.2.1, y1.1.1.2.2.2.1, y1.1.1.2.2.2.2.1, (), y1.1.1.2.2.2.2.2.2.1, ()), ()), ((), false, ())))
  (none) := by kernel_rfl
noncomputable def registryMachineFind_g2_sp : GSpec TT := ⟨[.ptr 0 44 [.val (.int .i64), .rw 2, .val (.int .i64), .val (.int .i64), .val (.int .i64), .rw 2, .val (.bool)], .val (.int .i64)], [.blk 44 [.val (.int .i64), .rw 2, .val (.int .i64), .val (.int .i64), .val (.int .i64), .rw 2, .val (.bool)]], [.nils, .val (.bool)], fun x => registryMachineFind_g2 BIG x.1.1 x.1.2.2.1 x.1.2.2.2.1 x.1.2.2.2.2.1 x.1.2.2.2.2.2.2.1 x.2.1⟩
theorem registryMachineFind_g2_ok : GOk TT Try.prog 13 registryMachineFind_g2_sp := gOk_of (C := registryMachineFind_g2_C) (cuts := registryMachineFind_g2_cuts) (by kernel_rfl) registryMachineFind_g2_env Try.func13 (show Try.f13.body = some (bodyOf Try.f13) by kernel_rfl) (by kernel_rfl) (by kernel_rfl) (by kernel_rfl) fun x y h => ⟨BIG, h⟩
noncomputable def registryMachine_noop_g4_C : Ctx TT := ⟨tyOf, [], 1, [], layOf⟩
theorem registryMachine_noop_g4_env : EnvOk TT Try.prog registryMachine_noop_g4_C.E := envNil
def registryMachine_noop_g4_cuts : List (Pos × Cut) := []
noncomputable def registryMachine_noop_g4 (n : Nat) (x0 : Int) (x1 : Int) (x2 : Int) (x3 : Int) (x4 : Bool) (x5 : Entry) : Option (((Int × Unit × Int × Int × Int × Unit × Bool × Unit) × Unit) × (Int × Unit)) := topG TT Try.prog registryMachine_noop_g4_C registryMachine_noop_g4_cuts Try.f18 (bodyOf Try.f18) ⟨[], [], [], [], []⟩ [.ptr 0 44 [.val (.int .i64), .rw 2, .val (.int .i64), .val (.int .i64), .val (.int .i64), .rw 2, .val (.bool)], .val (.user 0)] [.blk 44 [.val (.int .i64), .rw 2, .val (.int .i64), .val (.int .i64), .val (.int .i64), .rw 2, .val (.bool)]] [.val (.int .i64)] n ((x0, (), x1, x2, x3, (), x4, ()), x5, ())
theorem registryMachine_noop_g4_eq (n : Nat) (x0 : Int) (x1 : Int) (x2 : Int) (x3 : Int) (x4 : Bool) (x5 : Entry) : registryMachine_noop_g4 n x0 x1 x2 x3 x4 x5 =
  some (((x0, (), x1, x2, x3, (), x4, ()), ()), ((0 : Int), ())) := by kernel_rfl
noncomputable def registryMachine_noop_g4_sp : GSpec TT := ⟨[.ptr 0 44 [.val (.int .i64), .rw 2, .val (.int .i64), .val (.int .i64), .val (.int .i64), .rw 2, .val (.bool)], .val (.user 0)], [.blk 44 [.val (.int .i64), .rw 2, .val (.int .i64), .val (.int .i64), .val (.int .i64), .rw 2, .val (.bool)]], [.val (.int .i64)], fun x => registryMachine_noop_g4 BIG x.1.1 x.1.2.2.1 x.1.2.2.2.1 x.1.2.2.2.2.1 x.1.2.2.2.2.2.2.1 x.2.1⟩
theorem registryMachine_noop_g4_ok : GOk TT Try.prog 18 registryMachine_noop_g4_sp := gOk_of (C := registryMachine_noop_g4_C) (cuts := registryMachine_noop_g4_cuts) (by kernel_rfl) registryMachine_noop_g4_env Try.func18 (show Try.f18.body = some (bodyOf Try.f18) by kernel_rfl) (by kernel_rfl) (by kernel_rfl) (by kernel_rfl) fun x y h => ⟨BIG, h⟩
noncomputable def registryMachine_ack_g4_C : Ctx TT := ⟨tyOf, [(16, registry_within_sp.toCall)], 1, [(7, 1)], layOf⟩
theorem registryMachine_ack_g4_env : EnvOk TT Try.prog registryMachine_ack_g4_C.E := envG (fnCall_ok registry_within_ok) (envNil)
def registryMachine_ack_g4_cuts : List (Pos × Cut) := [([false, false, true], ⟨[0, 3, 8], [], false, []⟩)]
noncomputable def registryMachine_ack_g4 (n : Nat) (x0 : Int) (x1 : Int) (x2 : Int) (x3 : Int) (x4 : Bool) (x5 : Entry) : Option (((Int × Unit × Int × Int × Int × Unit × Bool × Unit) × Unit) × (Int × Unit)) := topG TT Try.prog registryMachine_ack_g4_C registryMachine_ack_g4_cuts Try.f21 (bodyOf Try.f21) ⟨[], [], [], [], []⟩ [.ptr 0 44 [.val (.int .i64), .rw 2, .val (.int .i64), .val (.int .i64), .val (.int .i64), .rw 2, .val (.bool)], .val (.user 0)] [.blk 44 [.val (.int .i64), .rw 2, .val (.int .i64), .val (.int .i64), .val (.int .i64), .rw 2, .val (.bool)]] [.val (.int .i64)] n ((x0, (), x1, x2, x3, (), x4, ()), x5, ())
noncomputable def registryMachine_ack_g4_J0 (n : Nat) (s8 : Bool) (b0_0 : Int) (b0_2 : Int) (b0_3 : Int) (b0_4 : Int) (b0_6 : Bool) (b1_0 : Int) (b1_1 : Int) (b1_2 : Int) (b1_3 : Int) (b1_4 : Bool) (b1_5 : List Int) : Option (((Int × Unit × Int × Int × Int × Unit × Bool × Unit) × Unit) × (Int × Unit)) := cutG TT Try.prog registryMachine_ack_g4_C registryMachine_ack_g4_cuts Try.f21 (bodyOf Try.f21) ⟨[], [], [], [], []⟩ [.blk 44 [.val (.int .i64), .rw 2, .val (.int .i64), .val (.int .i64), .val (.int .i64), .rw 2, .val (.bool)]] [.val (.int .i64)] n [false, false, true] ⟨[(0, .ptr 0 0), (3, .ptr 1 0), (8, .cell ⟨.bool, s8⟩)], [.blk 44 [.cell ⟨.int .i64, b0_0⟩, .raw (rawV 2), .cell ⟨.int .i64, b0_2⟩, .cell ⟨.int .i64, b0_3⟩, .cell ⟨.int .i64, b0_4⟩, .raw (rawV 2), .cell ⟨.bool, b0_6⟩], .blk 33 [.cell ⟨.int .i64, b1_0⟩, .cell ⟨.int .u8, b1_1⟩, .cell ⟨.int .i64, b1_2⟩, .cell ⟨.int .i64, b1_3⟩, .cell ⟨.bool, b1_4⟩, .cell ⟨.list (.int .u8), b1_5⟩]]⟩
theorem registryMachine_ack_g4_eq (n : Nat) (x0 : Int) (x1 : Int) (x2 : Int) (x3 : Int) (x4 : Bool) (x5 : Entry) : registryMachine_ack_g4 n x0 x1 x2 x3 x4 x5 =
  forkB (decide (x5.Version < (1 : Int)))
  (registryMachine_ack_g4_J0 n true x0 x1 x2 x3 x4 x5.Term x5.Kind x5.Version x5.Server x5.Good x5.Data)
  (registryMachine_ack_g4_J0 n (x5.Version != x3) x0 x1 x2 x3 x4 x5.Term x5.Kind x5.Version x5.Server x5.Good x5.Data) := by kernel_rfl
theorem registryMachine_ack_g4_J0_eq (n : Nat) (s8 : Bool) (b0_0 : Int) (b0_2 : Int) (b0_3 : Int) (b0_4 : Int) (b0_6 : Bool) (b1_0 : Int) (b1_1 : Int) (b1_2 : Int) (b1_3 : Int) (b1_4 : Bool) (b1_5 : List Int) : registryMachine_ack_g4_J0 (n + 1) s8 b0_0 b0_2 b0_3 b0_4 b0_6 b1_0 b1_1 b1_2 b1_3 b1_4 b1_5 =
  forkB s8
  (some (((b0_0, (), b0_2, b0_3, b0_4, (), b0_6, ()), ()), ((6 : Int), ())))
  (obind (registry_within BIG b1_3 b0_0) fun y1 =>
   forkB (!y1)
   (some (((b0_0, (), b0_2, b0_3, b0_4, (), b0_6, ()), ()), ((2 : Int), ())))
   (forkB b1_4
    (none)
    (some (((b0_0, (), b0_2, b0_3, b0_4, (), true, ()), ()), ((0 : Int), ()))))) := by kernel_rfl
noncomputable def registryMachine_ack_g4_sp : GSpec TT := ⟨[.ptr 0 44 [.val (.int .i64), .rw 2, .val (.int .i64), .val (.int .i64), .val (.int .i64), .rw 2, .val (.bool)], .val (.user 0)], [.blk 44 [.val (.int .i64), .rw 2, .val (.int .i64), .val (.int .i64), .val (.int .i64), .rw 2, .val (.bool)]], [.val (.int .i64)], fun x => registryMachine_ack_g4 BIG x.1.1 x.1.2.2.1 x.1.2.2.2.1 x.1.2.2.2.2.1 x.1.2.2.2.2.2.2.1 x.2.1⟩
theorem registryMachine_ack_g4_ok : GOk TT Try.prog 21 registryMachine_ack_g4_sp := gOk_of (C := registryMachine_ack_g4_C) (cuts := registryMachine_ack_g4_cuts) (by kernel_rfl) registryMachine_ack_g4_env Try.func21 (show Try.f21.body = some (bodyOf Try.f21) by kernel_rfl) (by kernel_rfl) (by kernel_rfl) (by kernel_rfl) fun x y h => ⟨BIG, h⟩
noncomputable def registryMachine_activate_g4_C : Ctx TT := ⟨tyOf, [], 1, [(5, 1)], layOf⟩
theorem registryMachine_activate_g4_env : EnvOk TT Try.prog registryMachine_activate_g4_C.E := envNil
def registryMachine_activate_g4_cuts : List (Pos × Cut) := [([false, false, true], ⟨[0, 3, 5], [], false, []⟩), ([true, true, false, false, true], ⟨[0, 3, 18], [], false, []⟩)]
noncomputable def registryMachine_activate_g4 (n : Nat) (x0 : Int) (x1 : Int) (x2 : Int) (x3 : Int) (x4 : Bool) (x5 : Entry) : Option (((Int × Unit × Int × Int × Int × Unit × Bool × Unit) × Unit) × (Int × Unit)) := topG TT Try.prog registryMachine_activate_g4_C registryMachine_activate_g4_cuts Try.f22 (bodyOf Try.f22) ⟨[], [], [], [], []⟩ [.ptr 0 44 [.val (.int .i64), .rw 2, .val (.int .i64), .val (.int .i64), .val (.int .i64), .rw 2, .val (.bool)], .val (.user 0)] [.blk 44 [.val (.int .i64), .rw 2, .val (.int .i64), .val (.int .i64), .val (.int .i64), .rw 2, .val (.bool)]] [.val (.int .i64)] n ((x0, (), x1, x2, x3, (), x4, ()), x5, ())
noncomputable def registryMachine_activate_g4_J0 (n : Nat) (s5 : Bool) (b0_0 : Int) (b0_2 : Int) (b0_3 : Int) (b0_4 : Int) (b0_6 : Bool) (b1_0 : Int) (b1_1 : Int) (b1_2 : Int) (b1_3 : Int) (b1_4 : Bool) (b1_5 : List Int) : Option (((Int × Unit × Int × Int × Int × Unit × Bool × Unit) × Unit) × (Int × Unit)) := cutG TT Try.prog registryMachine_activate_g4_C registryMachine_activate_g4_cuts Try.f22 (bodyOf Try.f22) ⟨[], [], [], [], []⟩ [.blk 44 [.val (.int .i64), .rw 2, .val (.int .i64), .val (.int .i64), .val (.int .i64), .rw 2, .val (.bool)]] [.val (.int .i64)] n [false, false, true] ⟨[(0, .ptr 0 0), (3, .ptr 1 0), (5, .cell ⟨.bool, s5⟩)], [.blk 44 [.cell ⟨.int .i64, b0_0⟩, .raw (rawV 2), .cell ⟨.int .i64, b0_2⟩, .cell ⟨.int .i64, b0_3⟩, .cell ⟨.int .i64, b0_4⟩, .raw (rawV 2), .cell ⟨.bool, b0_6⟩], .blk 33 [.cell ⟨.int .i64, b1_0⟩, .cell ⟨.int .u8, b1_1⟩, .cell ⟨.int .i64, b1_2⟩, .cell ⟨.int .i64, b1_3⟩, .cell ⟨.bool, b1_4⟩, .cell ⟨.list (.int .u8), b1_5⟩]]⟩
noncomputable def registryMachine_activate_g4_J1 (n : Nat) (s18 : Bool) (b0_0 : Int) (b0_2 : Int) (b0_3 : Int) (b0_4 : Int) (b0_6 : Bool) (b1_0 : Int) (b1_1 : Int) (b1_2 : Int) (b1_3 : Int) (b1_4 : Bool) (b1_5 : List Int) : Option (((Int × Unit × Int × Int × Int × Unit × Bool × Unit) × Unit) × (Int × Unit)) := cutG TT Try.prog registryMachine_activate_g4_C registryMachine_activate_g4_cuts Try.f22 (bodyOf Try.f22) ⟨[], [], [], [], []⟩ [.blk 44 [.val (.int .i64), .rw 2, .val (.int .i64), .val (.int .i64), .val (.int .i64), .rw 2, .val (.bool)]] [.val (.int .i64)] n [true, true, false, false, true] ⟨[(0, .ptr 0 0), (3, .ptr 1 0), (18, .cell ⟨.bool, s18⟩)], [.blk 44 [.cell ⟨.int .i64, b0_0⟩, .raw (rawV 2), .cell ⟨.int .i64, b0_2⟩, .cell ⟨.int .i64, b0_3⟩, .cell ⟨.int .i64, b0_4⟩, .raw (rawV 2), .cell ⟨.bool, b0_6⟩], .blk 33 [.cell ⟨.int .i64, b1_0⟩, .cell ⟨.int .u8, b1_1⟩, .cell ⟨.int .i64, b1_2⟩, .cell ⟨.int .i64, b1_3⟩, .cell ⟨.bool, b1_4⟩, .cell ⟨.list (.int .u8), b1_5⟩]]⟩
theorem registryMachine_activate_g4_eq (n : Nat) (x0 : Int) (x1 : Int) (x2 : Int) (x3 : Int) (x4 : Bool) (x5 : Entry) : registryMachine_activate_g4 n x0 x1 x2 x3 x4 x5 =
  forkB (decide (x5.Version < (1 : Int)))
  (registryMachine_activate_g4_J0 n true x0 x1 x2 x3 x4 x5.Term x5.Kind x5.Version x5.Server x5.Good x5.Data)
  (registryMachine_activate_g4_J0 n (x5.Version != x3) x0 x1 x2 x3 x4 x5.Term x5.Kind x5.Version x5.Server x5.Good x5.Data) := by kernel_rfl
theorem registryMachine_activate_g4_J0_eq (n : Nat) (s5 : Bool) (b0_0 : Int) (b0_2 : Int) (b0_3 : Int) (b0_4 : Int) (b0_6 : Bool) (b1_0 : Int) (b1_1 : Int) (b1_2 : Int) (b1_3 : Int) (b1_4 : Bool) (b1_5 : List Int) : registryMachine_activate_g4_J0 (n + 1) s5 b0_0 b0_2 b0_3 b0_4 b0_6 b1_0 b1_1 b1_2 b1_3 b1_4 b1_5 =
  forkB s5
  (some (((b0_0, (), b0_2, b0_3, b0_4, (), b0_6, ()), ()), ((6 : Int), ())))
  (forkB b0_6
   (registryMachine_activate_g4_J1 n true b0_0 b0_2 b0_3 b0_4 b0_6 b1_0 b1_1 b1_2 b1_3 b1_4 b1_5)
   (none)) := by kernel_rfl
theorem registryMachine_activate_g4_J1_eq (n : Nat) (s18 : Bool) (b0_0 : Int) (b0_2 : Int) (b0_3 : Int) (b0_4 : Int) (b0_6 : Bool) (b1_0 : Int) (b1_1 : Int) (b1_2 : Int) (b1_3 : Int) (b1_4 : Bool) (b1_5 : List Int) : registryMachine_activate_g4_J1 (n + 1) s18 b0_0 b0_2 b0_3 b0_4 b0_6 b1_0 b1_1 b1_2 b1_3 b1_4 b1_5 =
  forkB s18
  (some (((b0_0, (), b0_2, b0_3, b0_4, (), b0_6, ()), ()), ((8 : Int), ())))
  (none) := by kernel_rfl
noncomputable def registryMachine_activate_g4_sp : GSpec TT := ⟨[.ptr 0 44 [.val (.int .i64), .rw 2, .val (.int .i64), .val (.int .i64), .val (.int .i64), .rw 2, .val (.bool)], .val (.user 0)], [.blk 44 [.val (.int .i64), .rw 2, .val (.int .i64), .val (.int .i64), .val (.int .i64), .rw 2, .val (.bool)]], [.val (.int .i64)], fun x => registryMachine_activate_g4 BIG x.1.1 x.1.2.2.1 x.1.2.2.2.1 x.1.2.2.2.2.1 x.1.2.2.2.2.2.2.1 x.2.1⟩
theorem registryMachine_activate_g4_ok : GOk TT Try.prog 22 registryMachine_activate_g4_sp := gOk_of (C := registryMachine_activate_g4_C) (cuts := registryMachine_activate_g4_cuts) (by kernel_rfl) registryMachine_activate_g4_env Try.func22 (show Try.f22.body = some (bodyOf Try.f22) by kernel_rfl) (by kernel_rfl) (by kernel_rfl) (by kernel_rfl) fun x y h => ⟨BIG, h⟩
noncomputable def registryMachine_rollback_g4_C : Ctx TT := ⟨tyOf, [], 1, [], layOf⟩
theorem registryMachine_rollback_g4_env : EnvOk TT Try.prog registryMachine_rollback_g4_C.E := envNil
def registryMachine_rollback_g4_cuts : List (Pos × Cut) := [([false, false, true], ⟨[0, 3, 7], [], false, []⟩)]
noncomputable def registryMachine_rollback_g4 (n : Nat) (x0 : Int) (x1 : Int) (x2 : Int) (x3 : Int) (x4 : Bool) (x5 : Entry) : Option (((Int × Unit × Int × Int × Int × Unit × Bool × Unit) × Unit) × (Int × Unit)) := topG TT Try.prog registryMachine_rollback_g4_C registryMachine_rollback_g4_cuts Try.f23 (bodyOf Try.f23) ⟨[], [], [], [], []⟩ [.ptr 0 44 [.val (.int .i64), .rw 2, .val (.int .i64), .val (.int .i64), .val (.int .i64), .rw 2, .val (.bool)], .val (.user 0)] [.blk 44 [.val (.int .i64), .rw 2, .val (.int .i64), .val (.int .i64), .val (.int .i64), .rw 2, .val (.bool)]] [.val (.int .i64)] n ((x0, (), x1, x2, x3, (), x4, ()), x5, ())
noncomputable def registryMachine_rollback_g4_J0 (n : Nat) (s7 : Bool) (b0_0 : Int) (b0_2 : Int) (b0_3 : Int) (b0_4 : Int) (b0_6 : Bool) (b1_0 : Int) (b1_1 : Int) (b1_2 : Int) (b1_3 : Int) (b1_4 : Bool) (b1_5 : List Int) : Option (((Int × Unit × Int × Int × Int × Unit × Bool × Unit) × Unit) × (Int × Unit)) := cutG TT Try.prog registryMachine_rollback_g4_C registryMachine_rollback_g4_cuts Try.f23 (bodyOf Try.f23) ⟨[], [], [], [], []⟩ [.blk 44 [.val (.int .i64), .rw 2, .val (.int .i64), .val (.int .i64), .val (.int .i64), .rw 2, .val (.bool)]] [.val (.int .i64)] n [false, false, true] ⟨[(0, .ptr 0 0), (3, .ptr 1 0), (7, .cell ⟨.bool, s7⟩)], [.blk 44 [.cell ⟨.int .i64, b0_0⟩, .raw (rawV 2), .cell ⟨.int .i64, b0_2⟩, .cell ⟨.int .i64, b0_3⟩, .cell ⟨.int .i64, b0_4⟩, .raw (rawV 2), .cell ⟨.bool, b0_6⟩], .blk 33 [.cell ⟨.int .i64, b1_0⟩, .cell ⟨.int .u8, b1_1⟩, .cell ⟨.int .i64, b1_2⟩, .cell ⟨.int .i64, b1_3⟩, .cell ⟨.bool, b1_4⟩, .cell ⟨.list (.int .u8), b1_5⟩]]⟩
theorem registryMachine_rollback_g4_eq (n : Nat) (x0 : Int) (x1 : Int) (x2 : Int) (x3 : Int) (x4 : Bool) (x5 : Entry) : registryMachine_rollback_g4 n x0 x1 x2 x3 x4 x5 =
  forkB (decide (x5.Version < (1 : Int)))
  (registryMachine_rollback_g4_J0 n true x0 x1 x2 x3 x4 x5.Term x5.Kind x5.Version x5.Server x5.Good x5.Data)
  (forkB (x5.Version != x3)
   (registryMachine_rollback_g4_J0 n (x5.Version != x1) x0 x1 x2 x3 x4 x5.Term x5.Kind x5.Version x5.Server x5.Good x5.Data)
   (registryMachine_rollback_g4_J0 n false x0 x1 x2 x3 x4 x5.Term x5.Kind x5.Version x5.Server x5.Good x5.Data)) := by kernel_rfl
theorem registryMachine_rollback_g4_J0_eq (n : Nat) (s7 : Bool) (b0_0 : Int) (b0_2 : Int) (b0_3 : Int) (b0_4 : Int) (b0_6 : Bool) (b1_0 : Int) (b1_1 : Int) (b1_2 : Int) (b1_3 : Int) (b1_4 : Bool) (b1_5 : List Int) : registryMachine_rollback_g4_J0 (n + 1) s7 b0_0 b0_2 b0_3 b0_4 b0_6 b1_0 b1_1 b1_2 b1_3 b1_4 b1_5 =
  forkB s7
  (some (((b0_0, (), b0_2, b0_3, b0_4, (), b0_6, ()), ()), ((6 : Int), ())))
  (forkB (b1_2 == b0_2)
   (forkB (b0_4 == b0_3)
    (none)
    (some (((b0_0, (), b0_3, (0 : Int), b0_4, (), b0_6, ()), ()), ((0 : Int), ()))))
   (none)) := by kernel_rfl
noncomputable def registryMachine_rollback_g4_sp : GSpec TT := ⟨[.ptr 0 44 [.val (.int .i64), .rw 2, .val (.int .i64), .val (.int .i64), .val (.int .i64), .rw 2, .val (.bool)], .val (.user 0)], [.blk 44 [.val (.int .i64), .rw 2, .val (.int .i64), .val (.int .i64), .val (.int .i64), .rw 2, .val (.bool)]], [.val (.int .i64)], fun x => registryMachine_rollback_g4 BIG x.1.1 x.1.2.2.1 x.1.2.2.2.1 x.1.2.2.2.2.1 x.1.2.2.2.2.2.2.1 x.2.1⟩
theorem registryMachine_rollback_g4_ok : GOk TT Try.prog 23 registryMachine_rollback_g4_sp := gOk_of (C := registryMachine_rollback_g4_C) (cuts := registryMachine_rollback_g4_cuts) (by kernel_rfl) registryMachine_rollback_g4_env Try.func23 (show Try.f23.body = some (bodyOf Try.f23) by kernel_rfl) (by kernel_rfl) (by kernel_rfl) (by kernel_rfl) fun x y h => ⟨BIG, h⟩
noncomputable def registryMachineApply_g4_C : Ctx TT := ⟨tyOf, [(17, registryMachine_there_g3_sp.toCall (registryMachine_there_g2_sp.toCall (registryMachine_there_g1_sp.toCall (noCall TT)))), (18, registryMachine_noop_g4_sp.toCall (registryMachine_noop_g3_sp.toCall (registryMachine_noop_g2_sp.toCall (registryMachine_noop_g1_sp.toCall (noCall TT))))), (21, registryMachine_ack_g4_sp.toCall (registryMachine_ack_g3_sp.toCall (registryMachine_ack_g2_sp.toCall (registryMachine_ack_g1_sp.toCall (noCall TT))))), (22, registryMachine_activate_g4_sp.toCall (registryMachine_activate_g3_sp.toCall (registryMachine_activate_g2_sp.toCall (registryMachine_activate_g1_sp.toCall (noCall TT))))), (23, registryMachine_rollback_g4_sp.toCall (registryMachine_rollback_g3_sp.toCall (registryMachine_rollback_g2_sp.toCall (registryMachine_rollback_g1_sp.toCall (noCall TT)))))], 1, [], layOf⟩
theorem registryMachineApply_g4_env : EnvOk TT Try.prog registryMachineApply_g4_C.E := envG (gCall_ok registryMachine_there_g3_ok (gCall_ok registryMachine_there_g2_ok (gCall_ok registryMachine_there_g1_ok (noCall_ok 17)))) (envG (gCall_ok registryMachine_noop_g4_ok (gCall_ok registryMachine_noop_g3_ok (gCall_ok registryMachine_noop_g2_ok (gCall_ok registryMachine_noop_g1_ok (noCall_ok 18))))) (envG (gCall_ok registryMachine_ack_g4_ok (gCall_ok registryMachine_ack_g3_ok (gCall_ok registryMachine_ack_g2_ok (gCall_ok registryMachine_ack_g1_ok (noCall_ok 21))))) (envG (gCall_ok registryMachine_activate_g4_ok (gCall_ok registryMachine_activate_g3_ok (gCall_ok registryMachine_activate_g2_ok (gCall_ok registryMachine_activate_g1_ok (noCall_ok 22))))) (envG (gCall_ok registryMachine_rollback_g4_ok (gCall_ok registryMachine_rollback_g3_ok (gCall_ok registryMachine_rollback_g2_ok (gCall_ok registryMachine_rollback_g1_ok (noCall_ok 23))))) (envNil)))))
def registryMachineApply_g4_cuts : List (Pos × Cut) := []
noncomputable def registryMachineApply_g4 (n : Nat) (x0 : Int) (x1 : Int) (x2 : Int) (x3 : Int) (x4 : Bool) (x5 : Entry) : Option (((Int × Unit × Int × Int × Int × Unit × Bool × Unit) × Unit) × (Int × Unit)) := topG TT Try.prog registryMachineApply_g4_C registryMachineApply_g4_cuts Try.f9 (bodyOf Try.f9) ⟨[], [], [], [], []⟩ [.ptr 0 44 [.val (.int .i64), .rw 2, .val (.int .i64), .val (.int .i64), .val (.int .i64), .rw 2, .val (.bool)], .val (.user 0)] [.blk 44 [.val (.int .i64), .rw 2, .val (.int .i64), .val (.int .i64), .val (.int .i64), .rw 2, .val (.bool)]] [.val (.int .i64)] n ((x0, (), x1, x2, x3, (), x4, ()), x5, ())
theorem registryMachineApply_g4_eq (n : Nat) (x0 : Int) (x1 : Int) (x2 : Int) (x3 : Int) (x4 : Bool) (x5 : Entry) : registryMachineApply_g4 n x0 x1 x2 x3 x4 x5 =
  obind (registryMachine_there_g3 BIG x0 x1 x2 x3 x4) fun y1 =>
  forkB (!y1.2.1)
  (some (((y1.1.1.1, (), y1.1.1.2.2.1, y1.1.1.2.2.2.1, y1.1.1.2.2.2.2.1, (), y1.1.1.2.2.2.2.2.2.1, ()), ()), ((1 : Int), ())))
  (if x5.Kind = (1 : Int) then (obind (registryMachine_noop_g4 BIG y1.1.1.1 y1.1.1.2.2.1 y1.1.1.2.2.2.1 y1.1.1.2.2.2.2.1 y1.1.1.2.2.2.2.2.2.1 x5) fun y2 =>
    some (((y2.1.1.1, (), y2.1.1.2.2.1, y2.1.1.2.2.2.1, y2.1.1.2.2.2.2.1, (), y2.1.1.2.2.2.2.2.2.1, ()), ()), (y2.2.1, ()))) else (if x5.Kind = (2 : Int) then (none) else (if x5.Kind = (3 : Int) then (none) else (if x5.Kind = (4 : Int) then (obind (registryMachine_ack_g4 BIG y1.1.1.1 y1.1.1.2.2.1 y1.1.1.2.2.2.1 y1.1.1.2.2.2.2.1 y1.1.1.2.2.2.2.2.2.1 x5) fun y3 =>
       some (((y3.1.1.1, (), y3.1.1.2.2.1, y3.1.1.2.2.2.1, y3.1.1.2.2.2.2.1, (), y3.1.1.2.2.2.2.2.2.1, ()), ()), (y3.2.1, ()))) else (if x5.Kind = (5 : Int) then (obind (registryMachine_activate_g4 BIG y1.1.1.1 y1.1.1.2.2.1 y1.1.1.2.2.2.1 y1.1.1.2.2.2.2.1 y1.1.1.2.2.2.2.2.2.1 x5) fun y4 =>
        some (((y4.1.1.1, (), y4.1.1.2.2.1, y4.1.1.2.2.2.1, y4.1.1.2.2.2.2.1, (), y4.1.1.2.2.2.2.2.2.1, ()), ()), (y4.2.1, ()))) else (if x5.Kind = (6 : Int) then (obind (registryMachine_rollback_g4 BIG y1.1.1.1 y1.1.1.2.2.1 y1.1.1.2.2.2.1 y1.1.1.2.2.2.2.1 y1.1.1.2.2.2.2.2.2.1 x5) fun y5 =>
         some (((y5.1.1.1, (), y5.1.1.2.2.1, y5.1.1.2.2.2.1, y5.1.1.2.2.2.2.1, (), y5.1.1.2.2.2.2.2.2.1, ()), ()), (y5.2.1, ()))) else (some (((y1.1.1.1, (), y1.1.1.2.2.1, y1.1.1.2.2.2.1, y1.1.1.2.2.2.2.1, (), y1.1.1.2.2.2.2.2.2.1, ()), ()), ((2 : Int), ()))))))))) := by kernel_rfl
noncomputable def registryMachineApply_g4_sp : GSpec TT := ⟨[.ptr 0 44 [.val (.int .i64), .rw 2, .val (.int .i64), .val (.int .i64), .val (.int .i64), .rw 2, .val (.bool)], .val (.user 0)], [.blk 44 [.val (.int .i64), .rw 2, .val (.int .i64), .val (.int .i64), .val (.int .i64), .rw 2, .val (.bool)]], [.val (.int .i64)], fun x => registryMachineApply_g4 BIG x.1.1 x.1.2.2.1 x.1.2.2.2.1 x.1.2.2.2.2.1 x.1.2.2.2.2.2.2.1 x.2.1⟩
theorem registryMachineApply_g4_ok : GOk TT Try.prog 9 registryMachineApply_g4_sp := gOk_of (C := registryMachineApply_g4_C) (cuts := registryMachineApply_g4_cuts) (by kernel_rfl) registryMachineApply_g4_env Try.func9 (show Try.f9.body = some (bodyOf Try.f9) by kernel_rfl) (by kernel_rfl) (by kernel_rfl) (by kernel_rfl) fun x y h => ⟨BIG, h⟩
noncomputable def mapsKeys_g2_C : Ctx TT := ⟨tyOf, [], 0, [], layOf⟩
theorem mapsKeys_g2_env : EnvOk TT Try.prog mapsKeys_g2_C.E := envNil
def mapsKeys_g2_cuts : List (Pos × Cut) := []
noncomputable def mapsKeys_g2 (n : Nat)  : Option ((Unit) × (((Unit) × ((Unit × Unit) × Unit)) × Unit)) := topG TT Try.prog mapsKeys_g2_C mapsKeys_g2_cuts Try.f25 (bodyOf Try.f25) ⟨[], [], [], [], []⟩ [.rw 2] [] [.fn 37 [] [.ptr 0 42 [.rw 2]]] n ((), ())
theorem mapsKeys_g2_eq (n : Nat)  : mapsKeys_g2 n  =
  some ((), (((), (((), ()), ())), ())) := by kernel_rfl
noncomputable def mapsKeys_g2_sp : GSpec TT := ⟨[.rw 2], [], [.fn 37 [] [.ptr 0 42 [.rw 2]]], fun _ => mapsKeys_g2 BIG ⟩
theorem mapsKeys_g2_ok : GOk TT Try.prog 25 mapsKeys_g2_sp := gOk_of (C := mapsKeys_g2_C) (cuts := mapsKeys_g2_cuts) (by kernel_rfl) mapsKeys_g2_env Try.func25 (show Try.f25.body = some (bodyOf Try.f25) by kernel_rfl) (by kernel_rfl) (by kernel_rfl) (by kernel_rfl) fun x y h => ⟨BIG, h⟩
noncomputable def registryMachineState_g3_C : Ctx TT := ⟨tyOf, [(17, registryMachine_there_g3_sp.toCall (registryMachine_there_g2_sp.toCall (registryMachine_there_g1_sp.toCall (noCall TT)))), (25, mapsKeys_g2_sp.toCall (mapsKeys_g1_sp.toCall (noCall TT)))], 1, [(3, 1)], layOf⟩
theorem registryMachineState_g3_env : EnvOk TT Try.prog registryMachineState_g3_C.E := envG (gCall_ok registryMachine_there_g3_ok (gCall_ok registryMachine_there_g2_ok (gCall_ok registryMachine_there_g1_ok (noCall_ok 17)))) (envG (gCall_ok mapsKeys_g2_ok (gCall_ok mapsKeys_g1_ok (noCall_ok 25))) (envNil))
def registryMachineState_g3_cuts : List (Pos × Cut) := []
noncomputable def registryMachineState_g3 (n : Nat) (x0 : Int) (x1 : Int) (x2 : Int) (x3 : Int) (x4 : Bool) : Option (((Int × Unit × Int × Int × Int × Unit × Bool × Unit) × Unit) × ((Unit × Int × Int × Int × Unit × Bool × Unit) × Unit)) := topG TT Try.prog registryMachineState_g3_C registryMachineState_g3_cuts Try.f10 (bodyOf Try.f10) ⟨[], [], [], [], []⟩ [.ptr 0 44 [.val (.int .i64), .rw 2, .val (.int .i64), .val (.int .i64), .val (.int .i64), .rw 2, .val (.bool)]] [.blk 44 [.val (.int .i64), .rw 2, .val (.int .i64), .val (.int .i64), .val (.int .i64), .rw 2, .val (.bool)]] [.agg [.nils, .val (.int .i64), .val (.int .i64), .val (.int .i64), .nils, .val (.bool)]] n ((x0, (), x1, x2, x3, (), x4, ()), ())
theorem registryMachineState_g3_eq (n : Nat) (x0 : Int) (x1 : Int) (x2 : Int) (x3 : Int) (x4 : Bool) : registryMachineState_g3 n x0 x1 x2 x3 x4 =
  obind (registryMachine_there_g3 BIG x0 x1 x2 x3 x4) fun y1 =>
  forkB (!y1.2.1)
  (some (((y1.1.1.1, (), y1.1.1.2.2.1, y1.1.1.2.2.2.1, y1.1.1.2.2.2.2.1, (), y1.1.1.2.2.2.2.2.2.1, ()), ()), (((), (0 : Int), (0 : Int), (0 : Int), (), false, ()), ())))
  (obind (mapsKeys_g2 BIG ) fun y2 =>
   none) := by kernel_rfl
noncomputable def registryMachineState_g3_sp : GSpec TT := ⟨[.ptr 0 44 [.val (.int .i64), .rw 2, .val (.int .i64), .val (.int .i64), .val (.int .i64), .rw 2, .val (.bool)]], [.blk 44 [.val (.int .i64), .rw 2, .val (.int .i64), .val (.int .i64), .val (.int .i64), .rw 2, .val (.bool)]], [.agg [.nils, .val (.int .i64), .val (.int .i64), .val (.int .i64), .nils, .val (.bool)]], fun x => registryMachineState_g3 BIG x.1.1 x.1.2.2.1 x.1.2.2.2.1 x.1.2.2.2.2.1 x.1.2.2.2.2.2.2.1⟩
theorem registryMachineState_g3_ok : GOk TT Try.prog 10 registryMachineState_g3_sp := gOk_of (C := registryMachineState_g3_C) (cuts := registryMachineState_g3_cuts) (by kernel_rfl) registryMachineState_g3_env Try.func10 (show Try.f10.body = some (bodyOf Try.f10) by kernel_rfl) (by kernel_rfl) (by kernel_rfl) (by kernel_rfl) fun x y h => ⟨BIG, h⟩
noncomputable def law27RegistryNone_C : Ctx TT := ⟨tyOf, [(5, law27_awake_sp.toCall), (6, law27_light_sp.toCall), (8, (CallSpec.forkS [.val (.int .i64)] (fun x => registryNew_g1_c0 x.1) (registryNew_g1a1_sp.toCall (noCall TT)) (registryNew_g1a2_sp.toCall (noCall TT)))), (12, registryMachineWants_g3_sp.toCall (registryMachineWants_g2_sp.toCall (registryMachineWants_g1_sp.toCall (noCall TT)))), (13, registryMachineFind_g2_sp.toCall (registryMachineFind_g1_sp.toCall (noCall TT))), (9, registryMachineApply_g4_sp.toCall (registryMachineApply_g3_sp.toCall (registryMachineApply_g2_sp.toCall (registryMachineApply_g1_sp.toCall (noCall TT))))), (10, registryMachineState_g3_sp.toCall (registryMachineState_g2_sp.toCall (registryMachineState_g1_sp.toCall (noCall TT)))), (11, kitSameRegistry_sp.toCall)], 0, [(11, 1)], layOf⟩
theorem law27RegistryNone_env : EnvOk TT Try.prog law27RegistryNone_C.E := envG (fnCall_ok law27_awake_ok) (envG (fnCall_ok law27_light_ok) (envG (forkSCall_ok _ _ (gCall_ok registryNew_g1a1_ok (noCall_ok 8)) (gCall_ok registryNew_g1a2_ok (noCall_ok 8))) (envG (gCall_ok registryMachineWants_g3_ok (gCall_ok registryMachineWants_g2_ok (gCall_ok registryMachineWants_g1_ok (noCall_ok 12)))) (envG (gCall_ok registryMachineFind_g2_ok (gCall_ok registryMachineFind_g1_ok (noCall_ok 13))) (envG (gCall_ok registryMachineApply_g4_ok (gCall_ok registryMachineApply_g3_ok (gCall_ok registryMachineApply_g2_ok (gCall_ok registryMachineApply_g1_ok (noCall_ok 9))))) (envG (gCall_ok registryMachineState_g3_ok (gCall_ok registryMachineState_g2_ok (gCall_ok registryMachineState_g1_ok (noCall_ok 10)))) (envG (fnCall_ok kitSameRegistry_ok) (envNil))))))))
def law27RegistryNone_cuts : List (Pos × Cut) := [([false, true, false, true, true, true, true], ⟨[1, 2, 5, 6], [], true, []⟩), ([true, true, false, false, true, false, false, true, false, true, true, true, true], ⟨[1, 2, 5, 6, 77], [], false, []⟩)]
noncomputable def law27RegistryNone (n : Nat) (x0 : Entry) (x1 : Int) : Option (Bool) := topF TT Try.prog law27RegistryNone_C law27RegistryNone_cuts Try.f4 (bodyOf Try.f4) ⟨[], []⟩ [.val (.user 0), .val (.int .i64)] [.val (.bool)] n (x0, x1)
noncomputable def law27RegistryNone_J1 (n : Nat) (s1 : Int) (s77 : Bool) (b0_0 : Int) (b0_1 : Int) (b0_2 : Int) (b0_3 : Int) (b0_4 : Bool) (b0_5 : List Int) (b2_0 : Int) (b2_2 : Int) (b2_3 : Int) (b2_4 : Int) (b2_6 : Bool) : Option (Bool) := cutF TT Try.prog law27RegistryNone_C law27RegistryNone_cuts Try.f4 (bodyOf Try.f4) ⟨[], []⟩ [.val (.user 0), .val (.int .i64)] [.val (.bool)] n [true, true, false, false, true, false, false, true, false, true, true, true, true] ⟨[(1, .cell ⟨.int .i64, s1⟩), (2, .ptr 0 0), (5, .sl 1 1 0 4), (6, .cell ⟨.int .i64, (0 : Int)⟩), (77, .cell ⟨.bool, s77⟩)], [.blk 33 [.cell ⟨.int .i64, b0_0⟩, .cell ⟨.int .u8, b0_1⟩, .cell ⟨.int .i64, b0_2⟩, .cell ⟨.int .i64, b0_3⟩, .cell ⟨.bool, b0_4⟩, .cell ⟨.list (.int .u8), b0_5⟩], .blk 26 [.raw (.pointer none), .ptr 2 0, .raw (.pointer none), .raw (.pointer none)], .blk 44 [.cell ⟨.int .i64, b2_0⟩, .raw (rawV 2), .cell ⟨.int .i64, b2_2⟩, .cell ⟨.int .i64, b2_3⟩, .cell ⟨.int .i64, b2_4⟩, .raw (rawV 2), .cell ⟨.bool, b2_6⟩]]⟩
noncomputable def law27RegistryNone_J1a (n : Nat) (s1 : Int) (s77 : Bool) (b0_0 : Int) (b0_1 : Int) (b0_2 : Int) (b0_3 : Int) (b0_4 : Bool) (b0_5 : List Int) (b2_0 : Int) (b2_2 : Int) (b2_3 : Int) (b2_4 : Int) (b2_6 : Bool) : Option (Bool) := cutF TT Try.prog law27RegistryNone_C law27RegistryNone_cuts Try.f4 (bodyOf Try.f4) ⟨[], []⟩ [.val (.user 0), .val (.int .i64)] [.val (.bool)] n [true, true, false, false, true, false, false, true, false, true, true, true, true] ⟨[(1, .cell ⟨.int .i64, s1⟩), (2, .ptr 0 0), (5, .sl 1 1 0 4), (6, .cell ⟨.int .i64, (1 : Int)⟩), (77, .cell ⟨.bool, s77⟩)], [.blk 33 [.cell ⟨.int .i64, b0_0⟩, .cell ⟨.int .u8, b0_1⟩, .cell ⟨.int .i64, b0_2⟩, .cell ⟨.int .i64, b0_3⟩, .cell ⟨.bool, b0_4⟩, .cell ⟨.list (.int .u8), b0_5⟩], .blk 26 [.raw (.pointer none), .ptr 2 0, .raw (.pointer none), .raw (.pointer none)], .blk 44 [.cell ⟨.int .i64, b2_0⟩, .raw (rawV 2), .cell ⟨.int .i64, b2_2⟩, .cell ⟨.int .i64, b2_3⟩, .cell ⟨.int .i64, b2_4⟩, .raw (rawV 2), .cell ⟨.bool, b2_6⟩]]⟩
noncomputable def law27RegistryNone_J1b (n : Nat) (s1 : Int) (s77 : Bool) (b0_0 : Int) (b0_1 : Int) (b0_2 : Int) (b0_3 : Int) (b0_4 : Bool) (b0_5 : List Int) (b2_0 : Int) (b2_2 : Int) (b2_3 : Int) (b2_4 : Int) (b2_6 : Bool) : Option (Bool) := cutF TT Try.prog law27RegistryNone_C law27RegistryNone_cuts Try.f4 (bodyOf Try.f4) ⟨[], []⟩ [.val (.user 0), .val (.int .i64)] [.val (.bool)] n [true, true, false, false, true, false, false, true, false, true, true, true, true] ⟨[(1, .cell ⟨.int .i64, s1⟩), (2, .ptr 0 0), (5, .sl 1 1 0 4), (6, .cell ⟨.int .i64, (2 : Int)⟩), (77, .cell ⟨.bool, s77⟩)], [.blk 33 [.cell ⟨.int .i64, b0_0⟩, .cell ⟨.int .u8, b0_1⟩, .cell ⟨.int .i64, b0_2⟩, .cell ⟨.int .i64, b0_3⟩, .cell ⟨.bool, b0_4⟩, .cell ⟨.list (.int .u8), b0_5⟩], .blk 26 [.raw (.pointer none), .ptr 2 0, .raw (.pointer none), .raw (.pointer none)], .blk 44 [.cell ⟨.int .i64, b2_0⟩, .raw (rawV 2), .cell ⟨.int .i64, b2_2⟩, .cell ⟨.int .i64, b2_3⟩, .cell ⟨.int .i64, b2_4⟩, .raw (rawV 2), .cell ⟨.bool, b2_6⟩]]⟩
noncomputable def law27RegistryNone_J1c (n : Nat) (s1 : Int) (s77 : Bool) (b0_0 : Int) (b0_1 : Int) (b0_2 : Int) (b0_3 : Int) (b0_4 : Bool) (b0_5 : List Int) (b2_0 : Int) (b2_2 : Int) (b2_3 : Int) (b2_4 : Int) (b2_6 : Bool) : Option (Bool) := cutF TT Try.prog law27RegistryNone_C law27RegistryNone_cuts Try.f4 (bodyOf Try.f4) ⟨[], []⟩ [.val (.user 0), .val (.int .i64)] [.val (.bool)] n [true, true, false, false, true, false, false, true, false, true, true, true, true] ⟨[(1, .cell ⟨.int .i64, s1⟩), (2, .ptr 0 0), (5, .sl 1 1 0 4), (6, .cell ⟨.int .i64, (3 : Int)⟩), (77, .cell ⟨.bool, s77⟩)], [.blk 33 [.cell ⟨.int .i64, b0_0⟩, .cell ⟨.int .u8, b0_1⟩, .cell ⟨.int .i64, b0_2⟩, .cell ⟨.int .i64, b0_3⟩, .cell ⟨.bool, b0_4⟩, .cell ⟨.list (.int .u8), b0_5⟩], .blk 26 [.raw (.pointer none), .ptr 2 0, .raw (.pointer none), .raw (.pointer none)], .blk 44 [.cell ⟨.int .i64, b2_0⟩, .raw (rawV 2), .cell ⟨.int .i64, b2_2⟩, .cell ⟨.int .i64, b2_3⟩, .cell ⟨.int .i64, b2_4⟩, .raw (rawV 2), .cell ⟨.bool, b2_6⟩]]⟩
theorem law27RegistryNone_eq (n : Nat) (x0 : Entry) (x1 : Int) : law27RegistryNone (n + 1) x0 x1 =
  obind (law27_awake BIG ) fun y1 =>
  forkB (!y1)
  (some false)
  (obind (law27_light BIG ([x0] : List Entry)) fun y2 =>
   forkB (!y2)
   (some true)
   (obind (registryNew_g1a1 BIG (0 : Int)) fun y3 =>
    obind (registryNew_g1a1 BIG (8 : Int)) fun y4 =>
    obind (registryMachineWants_g2 BIG ) fun y5 =>
    obind (registryMachineFind_g1 BIG x1) fun y6 =>
    obind (registryMachineApply_g3 BIG x0) fun y7 =>
    forkB (y7.2.1 != (1 : Int))
    (law27RegistryNone_J1 n x1 true x0.Term x0.Kind x0.Version x0.Server x0.Good x0.Data (0 : Int) (0 : Int) (0 : Int) (0 : Int) false)
    (obind (registryMachineState_g2 BIG ) fun y8 =>
     obind (kitSameRegistry BIG (⟨([] : List Held), y8.2.1.2.1, y8.2.1.2.2.1, y8.2.1.2.2.2.1, ([] : List Int), y8.2.1.2.2.2.2.2.1⟩ : Registry) (⟨([] : List Held), (0 : Int), (0 : Int), (0 : Int), ([] : List Int), false⟩ : Registry)) fun y9 =>
     forkB (!y9)
     (law27RegistryNone_J1 n x1 true x0.Term x0.Kind x0.Version x0.Server x0.Good x0.Data (0 : Int) (0 : Int) (0 : Int) (0 : Int) false)
     (forkB y5.2.2.1
      (law27RegistryNone_J1 n x1 true x0.Term x0.Kind x0.Version x0.Server x0.Good x0.Data (0 : Int) (0 : Int) (0 : Int) (0 : Int) false)
      (forkB (y5.2.1.2.1 != (0 : Int))
       (law27RegistryNone_J1 n x1 true x0.Term x0.Kind x0.Version x0.Server x0.Good x0.Data (0 : Int) (0 : Int) (0 : Int) (0 : Int) false)
       (forkB y6.2.2.1
        (law27RegistryNone_J1 n x1 true x0.Term x0.Kind x0.Version x0.Server x0.Good x0.Data (0 : Int) (0 : Int) (0 : Int) (0 : Int) false)
        (law27RegistryNone_J1 n x1 false x0.Term x0.Kind x0.Version x0.Server x0.Good x0.Data (0 : Int) (0 : Int) (0 : Int) (0 : Int) false))))))) := by kernel_rfl
theorem law27RegistryNone_J1_eq (n : Nat) (s1 : Int) (s77 : Bool) (b0_0 : Int) (b0_1 : Int) (b0_2 : Int) (b0_3 : Int) (b0_4 : Bool) (b0_5 : List Int) (b2_0 : Int) (b2_2 : Int) (b2_3 : Int) (b2_4 : Int) (b2_6 : Bool) : law27RegistryNone_J1 (n + 2) s1 s77 b0_0 b0_1 b0_2 b0_3 b0_4 b0_5 b2_0 b2_2 b2_3 b2_4 b2_6 =
  forkB s77
  (some false)
  (obind (registryMachineWants_g3 BIG b2_0 b2_2 b2_3 b2_4 b2_6) fun y1 =>
   obind (registryMachineFind_g2 BIG y1.1.1.1 y1.1.1.2.2.1 y1.1.1.2.2.2.1 y1.1.1.2.2.2.2.1 y1.1.1.2.2.2.2.2.2.1 s1) fun y2 =>
   obind (registryMachineApply_g4 BIG y2.1.1.1 y2.1.1.2.2.1 y2.1.1.2.2.2.1 y2.1.1.2.2.2.2.1 y2.1.1.2.2.2.2.2.2.1 (⟨b0_0, b0_1, b0_2, b0_3, b0_4, b0_5⟩ : Entry)) fun y3 =>
   forkB (y3.2.1 != (1 : Int))
   (law27RegistryNone_J1a n s1 true b0_0 b0_1 b0_2 b0_3 b0_4 b0_5 y3.1.1.1 y3.1.1.2.2.1 y3.1.1.2.2.2.1 y3.1.1.2.2.2.2.1 y3.1.1.2.2.2.2.2.2.1)
   (obind (registryMachineState_g3 BIG y3.1.1.1 y3.1.1.2.2.1 y3.1.1.2.2.2.1 y3.1.1.2.2.2.2.1 y3.1.1.2.2.2.2.2.2.1) fun y4 =>
    obind (kitSameRegistry BIG (⟨([] : List Held), y4.2.1.2.1, y4.2.1.2.2.1, y4.2.1.2.2.2.1, ([] : List Int), y4.2.1.2.2.2.2.2.1⟩ : Registry) (⟨([] : List Held), (0 : Int), (0 : Int), (0 : Int), ([] : List Int), false⟩ : Registry)) fun y5 =>
    forkB (!y5)
    (law27RegistryNone_J1a n s1 true b0_0 b0_1 b0_2 b0_3 b0_4 b0_5 y4.1.1.1 y4.1.1.2.2.1 y4.1.1.2.2.2.1 y4.1.1.2.2.2.2.1 y4.1.1.2.2.2.2.2.2.1)
    (forkB y1.2.2.1
     (law27RegistryNone_J1a n s1 true b0_0 b0_1 b0_2 b0_3 b0_4 b0_5 y4.1.1.1 y4.1.1.2.2.1 y4.1.1.2.2.2.1 y4.1.1.2.2.2.2.1 y4.1.1.2.2.2.2.2.2.1)
     (forkB (y1.2.1.2.1 != (0 : Int))
      (law27RegistryNone_J1a n s1 true b0_0 b0_1 b0_2 b0_3 b0_4 b0_5 y4.1.1.1 y4.1.1.2.2.1 y4.1.1.2.2.2.1 y4.1.1.2.2.2.2.1 y4.1.1.2.2.2.2.2.2.1)
      (forkB y2.2.2.1
       (law27RegistryNone_J1a n s1 true b0_0 b0_1 b0_2 b0_3 b0_4 b0_5 y4.1.1.1 y4.1.1.2.2.1 y4.1.1.2.2.2.1 y4.1.1.2.2.2.2.1 y4.1.1.2.2.2.2.2.2.1)
       (law27RegistryNone_J1a n s1 false b0_0 b0_1 b0_2 b0_3 b0_4 b0_5 y4.1.1.1 y4.1.1.2.2.1 y4.1.1.2.2.2.1 y4.1.1.2.2.2.2.1 y4.1.1.2.2.2.2.2.2.1)))))) := by kernel_rfl
theorem law27RegistryNone_J1a_eq (n : Nat) (s1 : Int) (s77 : Bool) (b0_0 : Int) (b0_1 : Int) (b0_2 : Int) (b0_3 : Int) (b0_4 : Bool) (b0_5 : List Int) (b2_0 : Int) (b2_2 : Int) (b2_3 : Int) (b2_4 : Int) (b2_6 : Bool) : law27RegistryNone_J1a (n + 2) s1 s77 b0_0 b0_1 b0_2 b0_3 b0_4 b0_5 b2_0 b2_2 b2_3 b2_4 b2_6 =
  forkB s77
  (some false)
  (obind (registryMachineWants_g2 BIG ) fun y1 =>
   obind (registryMachineFind_g1 BIG s1) fun y2 =>
   obind (registryMachineApply_g3 BIG (⟨b0_0, b0_1, b0_2, b0_3, b0_4, b0_5⟩ : Entry)) fun y3 =>
   forkB (y3.2.1 != (1 : Int))
   (law27RegistryNone_J1b n s1 true b0_0 b0_1 b0_2 b0_3 b0_4 b0_5 b2_0 b2_2 b2_3 b2_4 b2_6)
   (obind (registryMachineState_g2 BIG ) fun y4 =>
    obind (kitSameRegistry BIG (⟨([] : List Held), y4.2.1.2.1, y4.2.1.2.2.1, y4.2.1.2.2.2.1, ([] : List Int), y4.2.1.2.2.2.2.2.1⟩ : Registry) (⟨([] : List Held), (0 : Int), (0 : Int), (0 : Int), ([] : List Int), false⟩ : Registry)) fun y5 =>
    forkB (!y5)
    (law27RegistryNone_J1b n s1 true b0_0 b0_1 b0_2 b0_3 b0_4 b0_5 b2_0 b2_2 b2_3 b2_4 b2_6)
    (forkB y1.2.2.1
     (law27RegistryNone_J1b n s1 true b0_0 b0_1 b0_2 b0_3 b0_4 b0_5 b2_0 b2_2 b2_3 b2_4 b2_6)
     (forkB (y1.2.1.2.1 != (0 : Int))
      (law27RegistryNone_J1b n s1 true b0_0 b0_1 b0_2 b0_3 b0_4 b0_5 b2_0 b2_2 b2_3 b2_4 b2_6)
      (forkB y2.2.2.1
       (law27RegistryNone_J1b n s1 true b0_0 b0_1 b0_2 b0_3 b0_4 b0_5 b2_0 b2_2 b2_3 b2_4 b2_6)
       (law27RegistryNone_J1b n s1 false b0_0 b0_1 b0_2 b0_3 b0_4 b0_5 b2_0 b2_2 b2_3 b2_4 b2_6)))))) := by kernel_rfl
theorem law27RegistryNone_J1b_eq (n : Nat) (s1 : Int) (s77 : Bool) (b0_0 : Int) (b0_1 : Int) (b0_2 : Int) (b0_3 : Int) (b0_4 : Bool) (b0_5 : List Int) (b2_0 : Int) (b2_2 : Int) (b2_3 : Int) (b2_4 : Int) (b2_6 : Bool) : law27RegistryNone_J1b (n + 2) s1 s77 b0_0 b0_1 b0_2 b0_3 b0_4 b0_5 b2_0 b2_2 b2_3 b2_4 b2_6 =
  forkB s77
  (some false)
  (obind (registryMachineWants_g2 BIG ) fun y1 =>
   obind (registryMachineFind_g1 BIG s1) fun y2 =>
   obind (registryMachineApply_g3 BIG (⟨b0_0, b0_1, b0_2, b0_3, b0_4, b0_5⟩ : Entry)) fun y3 =>
   forkB (y3.2.1 != (1 : Int))
   (law27RegistryNone_J1c n s1 true b0_0 b0_1 b0_2 b0_3 b0_4 b0_5 b2_0 b2_2 b2_3 b2_4 b2_6)
   (obind (registryMachineState_g2 BIG ) fun y4 =>
    obind (kitSameRegistry BIG (⟨([] : List Held), y4.2.1.2.1, y4.2.1.2.2.1, y4.2.1.2.2.2.1, ([] : List Int), y4.2.1.2.2.2.2.2.1⟩ : Registry) (⟨([] : List Held), (0 : Int), (0 : Int), (0 : Int), ([] : List Int), false⟩ : Registry)) fun y5 =>
    forkB (!y5)
    (law27RegistryNone_J1c n s1 true b0_0 b0_1 b0_2 b0_3 b0_4 b0_5 b2_0 b2_2 b2_3 b2_4 b2_6)
    (forkB y1.2.2.1
     (law27RegistryNone_J1c n s1 true b0_0 b0_1 b0_2 b0_3 b0_4 b0_5 b2_0 b2_2 b2_3 b2_4 b2_6)
     (forkB (y1.2.1.2.1 != (0 : Int))
      (law27RegistryNone_J1c n s1 true b0_0 b0_1 b0_2 b0_3 b0_4 b0_5 b2_0 b2_2 b2_3 b2_4 b2_6)
      (forkB y2.2.2.1
       (law27RegistryNone_J1c n s1 true b0_0 b0_1 b0_2 b0_3 b0_4 b0_5 b2_0 b2_2 b2_3 b2_4 b2_6)
       (law27RegistryNone_J1c n s1 false b0_0 b0_1 b0_2 b0_3 b0_4 b0_5 b2_0 b2_2 b2_3 b2_4 b2_6)))))) := by kernel_rfl
theorem law27RegistryNone_J1c_eq (n : Nat) (s1 : Int) (s77 : Bool) (b0_0 : Int) (b0_1 : Int) (b0_2 : Int) (b0_3 : Int) (b0_4 : Bool) (b0_5 : List Int) (b2_0 : Int) (b2_2 : Int) (b2_3 : Int) (b2_4 : Int) (b2_6 : Bool) : law27RegistryNone_J1c (n + 2) s1 s77 b0_0 b0_1 b0_2 b0_3 b0_4 b0_5 b2_0 b2_2 b2_3 b2_4 b2_6 =
  forkB s77
  (some false)
  (some true) := by kernel_rfl
noncomputable def law27RegistryNone_sp : FnSpec TT := ⟨[.val (.user 0), .val (.int .i64)], [.val (.bool)], fun x => law27RegistryNone BIG x.1 x.2⟩
theorem law27RegistryNone_ok : FnOk TT Try.prog 4 law27RegistryNone_sp := fnOk_of (C := law27RegistryNone_C) (by kernel_rfl) law27RegistryNone_env Try.func4 (show Try.f4.body = some (bodyOf Try.f4) by kernel_rfl) (by kernel_rfl) (by kernel_rfl) (cuts := law27RegistryNone_cuts) fun x y h => ⟨BIG, h⟩
end Go.X
