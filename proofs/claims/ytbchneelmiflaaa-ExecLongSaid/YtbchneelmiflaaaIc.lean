/- Runs. -/
import Derived.Test.YtbchneelmiflaaaIb
namespace Go.X
open Go.RowKit Go.V Go.Proofs
noncomputable def packet_sizes_g1_C : Ctx TT := ⟨tyOf, [], 0, [], layOf⟩
theorem packet_sizes_g1_env : EnvOk TT Try.prog packet_sizes_g1_C.E := envNil
def packet_sizes_g1_cuts : List (Pos × Cut) := []
noncomputable def packet_sizes_g1 (n : Nat)  : Option ((Unit) × (List Bool × Unit)) := topG TT Try.prog packet_sizes_g1_C packet_sizes_g1_cuts Try.f91 (bodyOf Try.f91) ⟨[], [], [], [], []⟩ [] [] [.arr (.bool) 9] n ()
theorem packet_sizes_g1_eq (n : Nat)  : packet_sizes_g1 n  =
  some ((), (([false, true, true, false, true, false, false, false, true] : List Bool), ())) := by kernel_rfl
noncomputable def packet_sizes_g1_sp : GSpec TT := ⟨[], [], [.arr (.bool) 9], fun _ => packet_sizes_g1 BIG ⟩
theorem packet_sizes_g1_ok : GOk TT Try.prog 91 packet_sizes_g1_sp := gOk_of (C := packet_sizes_g1_C) (cuts := packet_sizes_g1_cuts) (by kernel_rfl) packet_sizes_g1_env Try.func91 (show Try.f91.body = some (bodyOf Try.f91) by kernel_rfl) (by kernel_rfl) (by kernel_rfl) (by kernel_rfl) fun x y h => ⟨BIG, h⟩
noncomputable def packet_check_g1_C : Ctx TT := ⟨tyOf, [(91, packet_sizes_g1_sp.toCall (noCall TT))], 0, [], layOf⟩
theorem packet_check_g1_env : EnvOk TT Try.prog packet_check_g1_C.E := envG (gCall_ok packet_sizes_g1_ok (noCall_ok 91)) (envNil)
def packet_check_g1_cuts : List (Pos × Cut) := [([true], ⟨[0, 1, 2], [], false, []⟩), ([false, true], ⟨[0, 1, 2, 19], [], false, []⟩)]
noncomputable def packet_check_g1 (n : Nat) (x0 : List Int) (x1 : Int) (x2 : Int) : Option ((Unit) × ((Unit) ⊕ (Int × Unit))) := topP TT Try.prog packet_check_g1_C packet_check_g1_cuts Try.f48 (bodyOf Try.f48) ⟨[], [], [], [], []⟩ [.val (.list (.int .u8)), .val (.int .i64), .val (.int .i64)] [] [] (.ifc 30 (.val (.int .i64))) n (x0, x1, x2, ())
noncomputable def packet_check_g1_J1 (n : Nat) (s0 : List Int) (s1 : Int) (s2 : Int) (s19 : Bool) : Option ((Unit) × ((Unit) ⊕ (Int × Unit))) := cutP TT Try.prog packet_check_g1_C packet_check_g1_cuts Try.f48 (bodyOf Try.f48) ⟨[], [], [], [], []⟩ [] [] (.ifc 30 (.val (.int .i64))) n [false, true] ⟨[(0, .cell ⟨.list (.int .u8), s0⟩), (1, .cell ⟨.int .i64, s1⟩), (2, .cell ⟨.int .i64, s2⟩), (19, .cell ⟨.bool, s19⟩)], []⟩
noncomputable def packet_check_g1_J0 (n : Nat) (s0 : List Int) (s1 : Int) (s2 : Int) : Option ((Unit) × ((Unit) ⊕ (Int × Unit))) := cutP TT Try.prog packet_check_g1_C packet_check_g1_cuts Try.f48 (bodyOf Try.f48) ⟨[], [], [], [], []⟩ [] [] (.ifc 30 (.val (.int .i64))) n [true] ⟨[(0, .cell ⟨.list (.int .u8), s0⟩), (1, .cell ⟨.int .i64, s1⟩), (2, .cell ⟨.int .i64, s2⟩)], []⟩
theorem packet_check_g1_eq (n : Nat) (x0 : List Int) (x1 : Int) (x2 : Int) : packet_check_g1 n x0 x1 x2 =
  obind (packet_sizes_g1 BIG ) fun y1 =>
  forkB (decide (x2 < (0 : Int)))
  (packet_check_g1_J1 n x0 x1 x2 true)
  (forkB (decide (x2 ≥ (9 : Int)))
   (packet_check_g1_J1 n x0 x1 x2 true)
   (if 0 ≤ x2 ∧ x2 < ((9 : Nat) : Int) then (packet_check_g1_J1 n x0 x1 x2 (!(y1.2.1.getD x2.toNat false))) else none)) := by kernel_rfl
theorem packet_check_g1_J1_eq (n : Nat) (s0 : List Int) (s1 : Int) (s2 : Int) (s19 : Bool) : packet_check_g1_J1 (n + 1) s0 s1 s2 s19 =
  forkB s19
  (some ((), .inr ((2 : Int), ())))
  (packet_check_g1_J0 n s0 s1 s2) := by kernel_rfl
theorem packet_check_g1_J0_eq (n : Nat) (s0 : List Int) (s1 : Int) (s2 : Int) : packet_check_g1_J0 (n + 1) s0 s1 s2 =
  forkB (decide (s1 < (0 : Int)))
  (some ((), .inr ((112 : Int), ())))
  (forkB (decide (s1 > (IntKind.i64.wrap (((s0.length : Nat) : Int) - s2))))
   (some ((), .inr ((112 : Int), ())))
   (some ((), .inl ()))) := by kernel_rfl
noncomputable def packet_check_g1_sp : PSpec TT := ⟨[.val (.list (.int .u8)), .val (.int .i64), .val (.int .i64)], [], [], .ifc 30 (.val (.int .i64)), fun x => packet_check_g1 BIG x.1 x.2.1 x.2.2.1⟩
theorem packet_check_g1_ok : POk TT Try.prog 48 packet_check_g1_sp := pOk_of (C := packet_check_g1_C) (cuts := packet_check_g1_cuts) (by kernel_rfl) packet_check_g1_env Try.func48 (show Try.f48.body = some (bodyOf Try.f48) by kernel_rfl) (by kernel_rfl) (by kernel_rfl) (by kernel_rfl) fun x y h => ⟨BIG, h⟩
noncomputable def packet_places_g1_C : Ctx TT := ⟨tyOf, [], 0, [], layOf⟩
theorem packet_places_g1_env : EnvOk TT Try.prog packet_places_g1_C.E := envNil
def packet_places_g1_cuts : List (Pos × Cut) := []
noncomputable def packet_places_g1 (n : Nat) (x0 : Int) (x1 : Int) : Option ((Unit) × (((Unit) × ((Int × Unit) × (Int × Unit) × Unit)) × Unit)) := topG TT Try.prog packet_places_g1_C packet_places_g1_cuts Try.f49 (bodyOf Try.f49) ⟨[], [], [], [], []⟩ [.val (.int .i64), .val (.int .i64)] [] [.fn 92 [] [.ptr 0 3 [.val (.int .i64)], .ptr 0 2 [.val (.int .i64)]]] n (x0, x1, ())
theorem packet_places_g1_eq (n : Nat) (x0 : Int) (x1 : Int) : packet_places_g1 n x0 x1 =
  some ((), (((), ((x1, ()), (x0, ()), ())), ())) := by kernel_rfl
noncomputable def packet_places_g1_sp : GSpec TT := ⟨[.val (.int .i64), .val (.int .i64)], [], [.fn 92 [] [.ptr 0 3 [.val (.int .i64)], .ptr 0 2 [.val (.int .i64)]]], fun x => packet_places_g1 BIG x.1 x.2.1⟩
theorem packet_places_g1_ok : GOk TT Try.prog 49 packet_places_g1_sp := gOk_of (C := packet_places_g1_C) (cuts := packet_places_g1_cuts) (by kernel_rfl) packet_places_g1_env Try.func49 (show Try.f49.body = some (bodyOf Try.f49) by kernel_rfl) (by kernel_rfl) (by kernel_rfl) (by kernel_rfl) fun x y h => ⟨BIG, h⟩
noncomputable def packetGet_1_g1_C : Ctx TT := ⟨tyOf, [(48, packet_check_g1_sp.toCall (noCall TT)), (49, packet_places_g1_sp.toCall (noCall TT))], 4, [(4, 1)], layOf⟩
theorem packetGet_1_g1_env : EnvOk TT Try.prog packetGet_1_g1_C.E := envG (pCall_ok packet_check_g1_ok (noCall_ok 48)) (envG (gCall_ok packet_places_g1_ok (noCall_ok 49)) (envNil))
noncomputable def packetGet_1_g1_RF : RfP TT := ⟨2, 92, (itPl 3 2), [12, 0, 3]⟩
noncomputable def packetGet_1_g1 (x0 : List Int) (x1 : Int) (x2 : Int) (x3 : Int) : Option (((List Int × Unit) × (Int × Unit) × (Int × Unit) × (Int × Unit) × Unit) × ((Unit) ⊕ (Int × Unit))) := topR TT Try.prog packetGet_1_g1_C Try.f47 (bodyOf Try.f47) ⟨[], [], [], [], []⟩ [.ptr 0 23 [.val (.list (.int .u8))], .ptr 0 2 [.val (.int .i64)], .ptr 0 3 [.val (.int .i64)], .ptr 0 31 [.val (.int .u64)]] [.blk 23 [.val (.list (.int .u8))], .blk 2 [.val (.int .i64)], .blk 3 [.val (.int .i64)], .blk 31 [.val (.int .u64)]] [] (.ifc 30 (.val (.int .i64))) packetGet_1_g1_RF ((x0, ()), (x1, ()), (x2, ()), (x3, ()), ())
noncomputable def packetGet_1_g1_R0 (m k : Nat) (b0_0 : List Int) (b1_0 : Int) (b2_0 : Int) (b3_0 : Int) (b4_0 : Int) (b5_0 : Int) : Option (((List Int × Unit) × (Int × Unit) × (Int × Unit) × (Int × Unit) × Unit) × ((Unit) ⊕ (Int × Unit))) := roundsC TT Try.prog packetGet_1_g1_C Try.f47 (bodyOf Try.f47) ⟨[], [], [], [], []⟩ [.blk 23 [.val (.list (.int .u8))], .blk 2 [.val (.int .i64)], .blk 3 [.val (.int .i64)], .blk 31 [.val (.int .u64)]] [] (.ifc 30 (.val (.int .i64))) packetGet_1_g1_RF [.ptr 4 0, .ptr 5 0] m k (⟨[(12, .fn (.func 92) [] [.ptr 4 0, .ptr 5 0]), (0, .ptr 0 0), (3, .ptr 3 0)], [.blk 23 [.cell ⟨.list (.int .u8), b0_0⟩], .blk 2 [.cell ⟨.int .i64, b1_0⟩], .blk 3 [.cell ⟨.int .i64, b2_0⟩], .blk 31 [.cell ⟨.int .u64, b3_0⟩], .blk 3 [.cell ⟨.int .i64, b4_0⟩], .blk 2 [.cell ⟨.int .i64, b5_0⟩]]⟩ : St TT)
theorem packetGet_1_g1_R0_zero (k : Nat) (b0_0 : List Int) (b1_0 : Int) (b2_0 : Int) (b3_0 : Int) (b4_0 : Int) (b5_0 : Int) : packetGet_1_g1_R0 0 k b0_0 b1_0 b2_0 b3_0 b4_0 b5_0 =
  some (((b0_0, ()), (b1_0, ()), (b2_0, ()), (b3_0, ()), ()), .inl ()) := by kernel_rfl
theorem packetGet_1_g1_R0_succ (m k : Nat) (b0_0 : List Int) (b1_0 : Int) (b2_0 : Int) (b3_0 : Int) (b4_0 : Int) (b5_0 : Int) : packetGet_1_g1_R0 (m + 1) k b0_0 b1_0 b2_0 b3_0 b4_0 b5_0 =
  if 0 ≤ IntKind.i64.wrap (b5_0 + (k : Int)) ∧ IntKind.i64.wrap (b5_0 + (k : Int)) < ((b0_0.length : Nat) : Int) then (if IntKind.i64.wrap (8 * IntKind.i64.wrap (IntKind.i64.wrap (b4_0 - 1) - (k : Int))) < 0 then none else (packetGet_1_g1_R0 m (k + 1) b0_0 b1_0 b2_0 (bOr .u64 b3_0 (sShl .u64 (IntKind.u64.wrap (b0_0.getD ((IntKind.i64.wrap (b5_0 + (k : Int))).toNat) (0 : Int))) (IntKind.i64.wrap (8 * IntKind.i64.wrap (IntKind.i64.wrap (b4_0 - 1) - (k : Int)))))) b4_0 b5_0)) else none := by kernel_rfl
theorem packetGet_1_g1_eq (x0 : List Int) (x1 : Int) (x2 : Int) (x3 : Int) : packetGet_1_g1 x0 x1 x2 x3 =
  obind (packet_check_g1 BIG x0 x1 x2) fun y1 => match y1.2 with
  | .inl z1 => (obind (packet_places_g1 BIG x1 x2) fun y2 =>
   match forkB (decide (y2.2.1.2.1.1 ≤ 8)) (some y2.2.1.2.1.1.toNat) none with
   | some N => packetGet_1_g1_R0 N 0 x0 x1 x2 x3 y2.2.1.2.1.1 y2.2.1.2.2.1.1
   | none => none)
  | .inr e1 => (some (((x0, ()), (x1, ()), (x2, ()), (x3, ()), ()), .inr (e1.1, ()))) := by kernel_rfl
noncomputable def packetGet_1_g1_sp : PSpec TT := ⟨[.ptr 0 23 [.val (.list (.int .u8))], .ptr 0 2 [.val (.int .i64)], .ptr 0 3 [.val (.int .i64)], .ptr 0 31 [.val (.int .u64)]], [.blk 23 [.val (.list (.int .u8))], .blk 2 [.val (.int .i64)], .blk 3 [.val (.int .i64)], .blk 31 [.val (.int .u64)]], [], .ifc 30 (.val (.int .i64)), fun x => packetGet_1_g1 x.1.1 x.2.1.1 x.2.2.1.1 x.2.2.2.1.1⟩
theorem packetGet_1_g1_ok : POk TT Try.prog 47 packetGet_1_g1_sp := pOkR_of (C := packetGet_1_g1_C) (D := packetGet_1_g1_RF) (by kernel_rfl) packetGet_1_g1_env Try.func47 (show Try.f47.body = some (bodyOf Try.f47) by kernel_rfl) (by kernel_rfl) (by kernel_rfl) (by kernel_rfl) places_it fun x y h => h
noncomputable def packet_caught_1_d1_C : Ctx TT := ⟨tyOf, [], 1, [], layOf⟩
theorem packet_caught_1_d1_env : EnvOk TT Try.prog packet_caught_1_d1_C.E := envNil
noncomputable def packet_caught_1_d1 (x0 : Int) : Option ((Int × Unit) × Unit) := topDf Try.prog packet_caught_1_d1_C Try.f90 (bodyOf Try.f90) [.ptr 0 30 [.val (.int .i64)]] (.rw 1) [.blk 30 [.val (.int .i64)]] ((x0, ()), (), ())
theorem packet_caught_1_d1_eq (x0 : Int) : packet_caught_1_d1 x0 =
  some ((x0, ()), ()) := by kernel_rfl
noncomputable def packet_caught_1_d1_dsp : DSpec TT := ⟨[.ptr 0 30 [.val (.int .i64)]], .rw 1, [.blk 30 [.val (.int .i64)]], fun x => packet_caught_1_d1 x.1.1⟩
theorem packet_caught_1_d1_dok : DOk TT Try.prog 90 packet_caught_1_d1_dsp := dOk_of (C := packet_caught_1_d1_C) (by kernel_rfl) packet_caught_1_d1_env Try.func90 (show Try.f90.body = some (bodyOf Try.f90) by kernel_rfl) (by kernel_rfl) (by kernel_rfl) (by kernel_rfl) (by kernel_rfl) fun x y h => h
noncomputable def packet_caught_1_d2_C : Ctx TT := ⟨tyOf, [], 1, [], layOf⟩
theorem packet_caught_1_d2_env : EnvOk TT Try.prog packet_caught_1_d2_C.E := envNil
noncomputable def packet_caught_1_d2 (x0 : Int) (x1 : Int) : Option ((Int × Unit) × Unit) := topDf Try.prog packet_caught_1_d2_C Try.f90 (bodyOf Try.f90) [.ptr 0 30 [.val (.int .i64)]] (.ifc 30 (.val (.int .i64))) [.blk 30 [.val (.int .i64)]] ((x0, ()), x1, ())
theorem packet_caught_1_d2_eq (x0 : Int) (x1 : Int) : packet_caught_1_d2 x0 x1 =
  some ((x1, ()), ()) := by kernel_rfl
noncomputable def packet_caught_1_d2_dsp : DSpec TT := ⟨[.ptr 0 30 [.val (.int .i64)]], .ifc 30 (.val (.int .i64)), [.blk 30 [.val (.int .i64)]], fun x => packet_caught_1_d2 x.1.1 x.2.1⟩
theorem packet_caught_1_d2_dok : DOk TT Try.prog 90 packet_caught_1_d2_dsp := dOk_of (C := packet_caught_1_d2_C) (by kernel_rfl) packet_caught_1_d2_env Try.func90 (show Try.f90.body = some (bodyOf Try.f90) by kernel_rfl) (by kernel_rfl) (by kernel_rfl) (by kernel_rfl) (by kernel_rfl) fun x y h => h
noncomputable def packet_caught_g1_C : Ctx TT := ⟨tyOf, [(47, packetGet_1_g1_sp.toCall (noCall TT))], 4, [], layOf⟩
theorem packet_caught_g1_env : EnvOk TT Try.prog packet_caught_g1_C.E := envG (pCall_ok packetGet_1_g1_ok (noCall_ok 47)) (envNil)
def packet_caught_g1_cuts : List (Pos × Cut) := []
noncomputable def packet_caught_g1_D : DefP TT := ⟨1, 3, [3, 0, 2], 5, 90, [(4, 0)], packet_caught_1_d1_dsp, packet_caught_1_d2_dsp⟩
noncomputable def packet_caught_g1 (n : Nat) (x0 : List Int) (x1 : Int) (x2 : Int) (x3 : Int) : Option (((List Int × Unit) × (Int × Unit) × (Int × Unit) × (Int × Unit) × Unit) × (Int × Unit)) := topD Try.prog packet_caught_g1_C packet_caught_g1_cuts Try.f46 (bodyOf Try.f46) ⟨[], [], [], [], []⟩ [.fn 47 [] [.ptr 0 23 [.val (.list (.int .u8))], .ptr 0 2 [.val (.int .i64)], .ptr 0 3 [.val (.int .i64)], .ptr 0 31 [.val (.int .u64)]]] [.blk 23 [.val (.list (.int .u8))], .blk 2 [.val (.int .i64)], .blk 3 [.val (.int .i64)], .blk 31 [.val (.int .u64)]] [.val (.int .i64)] packet_caught_g1_D n (((), ((x0, ()), (x1, ()), (x2, ()), (x3, ()), ())), ())
theorem packet_caught_g1_eq (n : Nat) (x0 : List Int) (x1 : Int) (x2 : Int) (x3 : Int) : packet_caught_g1 n x0 x1 x2 x3 =
  obind (packetGet_1_g1 x0 x1 x2 x3) fun y1 => match y1.2 with
  | .inl z1 => (obind (packet_caught_1_d1 (0 : Int)) fun y2 =>
   some (((y1.1.1.1, ()), (y1.1.2.1.1, ()), (y1.1.2.2.1.1, ()), (y1.1.2.2.2.1.1, ()), ()), (y2.1.1, ())))
  | .inr e1 => (obind (packet_caught_1_d2 (0 : Int) e1.1) fun y3 =>
   some (((y1.1.1.1, ()), (y1.1.2.1.1, ()), (y1.1.2.2.1.1, ()), (y1.1.2.2.2.1.1, ()), ()), (y3.1.1, ()))) := by kernel_rfl
noncomputable def packet_caught_g1_sp : GSpec TT := ⟨[.fn 47 [] [.ptr 0 23 [.val (.list (.int .u8))], .ptr 0 2 [.val (.int .i64)], .ptr 0 3 [.val (.int .i64)], .ptr 0 31 [.val (.int .u64)]]], [.blk 23 [.val (.list (.int .u8))], .blk 2 [.val (.int .i64)], .blk 3 [.val (.int .i64)], .blk 31 [.val (.int .u64)]], [.val (.int .i64)], fun x => packet_caught_g1 BIG x.1.2.1.1 x.1.2.2.1.1 x.1.2.2.2.1.1 x.1.2.2.2.2.1.1⟩
theorem packet_caught_g1_ok : GOk TT Try.prog 46 packet_caught_g1_sp := gOkD_of (C := packet_caught_g1_C) (cuts := packet_caught_g1_cuts) (D := packet_caught_g1_D) (by kernel_rfl) packet_caught_g1_env Try.func46 (show Try.f46.body = some (bodyOf Try.f46) by kernel_rfl) (by kernel_rfl) (by kernel_rfl) (by kernel_rfl) packet_caught_1_d1_dok packet_caught_1_d2_dok fun x y h => ⟨BIG, h⟩
noncomputable def packetGet_C : Ctx TT := ⟨tyOf, [(46, packet_caught_g1_sp.toCall (noCall TT))], 0, [], layOf⟩
theorem packetGet_env : EnvOk TT Try.prog packetGet_C.E := envG (gCall_ok packet_caught_g1_ok (noCall_ok 46)) (envNil)
def packetGet_cuts : List (Pos × Cut) := []
noncomputable def packetGet (n : Nat) (x0 : List Int) (x1 : Int) (x2 : Int) : Option (Int × Int) := topF TT Try.prog packetGet_C packetGet_cuts Try.f36 (bodyOf Try.f36) ⟨[], []⟩ [.val (.list (.int .u8)), .val (.int .i64), .val (.int .i64)] [.val (.int .u64), .val (.int .i64)] n (x0, x1, x2)
theorem packetGet_eq (n : Nat) (x0 : List Int) (x1 : Int) (x2 : Int) : packetGet n x0 x1 x2 =
  obind (packet_caught_g1 BIG x0 x1 x2 (0 : Int)) fun y1 =>
  some (y1.1.2.2.2.1.1, y1.2.1) := by kernel_rfl
noncomputable def packetGet_sp : FnSpec TT := ⟨[.val (.list (.int .u8)), .val (.int .i64), .val (.int .i64)], [.val (.int .u64), .val (.int .i64)], fun x => packetGet BIG x.1 x.2.1 x.2.2⟩
theorem packetGet_ok : FnOk TT Try.prog 36 packetGet_sp := fnOk_of (C := packetGet_C) (by kernel_rfl) packetGet_env Try.func36 (show Try.f36.body = some (bodyOf Try.f36) by kernel_rfl) (by kernel_rfl) (by kernel_rfl) (cuts := packetGet_cuts) fun x y h => ⟨BIG, h⟩
noncomputable def exec_does_g1a1_C : Ctx TT := ⟨tyOf, [], 0, [], layOf⟩
theorem exec_does_g1a1_env : EnvOk TT Try.prog exec_does_g1a1_C.E := envNil
def exec_does_g1a1_cuts : List (Pos × Cut) := []
noncomputable def exec_does_g1a1 (n : Nat) (x0 : Int) : Option ((Unit) × (((Unit) × (Unit)) × Unit)) := topG TT Try.prog exec_does_g1a1_C exec_does_g1a1_cuts Try.f10 (bodyOf Try.f10) ⟨[], [], [], [], []⟩ [.val (.int .u8)] [] [.fn 20 [] []] n (x0, ())
theorem exec_does_g1a1_eq (n : Nat) (x0 : Int) : exec_does_g1a1 n x0 =
  if x0 = (12 : Int) then (some ((), (((), ()), ()))) else (if x0 = (13 : Int) then (none) else (if x0 = (14 : Int) then (none) else (if x0 = (15 : Int) then (none) else (if x0 = (16 : Int) then (none) else (if x0 = (28 : Int) then (none) else (forkB (decide (x0 < (12 : Int)))
        (none)
        (none))))))) := by kernel_rfl
noncomputable def exec_does_g1a1_sp : GSpec TT := ⟨[.val (.int .u8)], [], [.fn 20 [] []], fun x => exec_does_g1a1 BIG x.1⟩
theorem exec_does_g1a1_ok : GOk TT Try.prog 10 exec_does_g1a1_sp := gOk_of (C := exec_does_g1a1_C) (cuts := exec_does_g1a1_cuts) (by kernel_rfl) exec_does_g1a1_env Try.func10 (show Try.f10.body = some (bodyOf Try.f10) by kernel_rfl) (by kernel_rfl) (by kernel_rfl) (by kernel_rfl) fun x y h => ⟨BIG, h⟩
noncomputable def exec_does_g1a2_C : Ctx TT := ⟨tyOf, [], 0, [], layOf⟩
theorem exec_does_g1a2_env : EnvOk TT Try.prog exec_does_g1a2_C.E := envNil
def exec_does_g1a2_cuts : List (Pos × Cut) := []
noncomputable def exec_does_g1a2 (n : Nat) (x0 : Int) : Option ((Unit) × (((Unit) × (Unit)) × Unit)) := topG TT Try.prog exec_does_g1a2_C exec_does_g1a2_cuts Try.f10 (bodyOf Try.f10) ⟨[], [], [], [], []⟩ [.val (.int .u8)] [] [.fn 21 [] []] n (x0, ())
theorem exec_does_g1a2_eq (n : Nat) (x0 : Int) : exec_does_g1a2 n x0 =
  if x0 = (12 : Int) then (none) else (if x0 = (13 : Int) then (some ((), (((), ()), ()))) else (if x0 = (14 : Int) then (none) else (if x0 = (15 : Int) then (none) else (if x0 = (16 : Int) then (none) else (if x0 = (28 : Int) then (none) else (forkB (decide (x0 < (12 : Int)))
        (none)
        (none))))))) := by kernel_rfl
noncomputable def exec_does_g1a2_sp : GSpec TT := ⟨[.val (.int .u8)], [], [.fn 21 [] []], fun x => exec_does_g1a2 BIG x.1⟩
theorem exec_does_g1a2_ok : GOk TT Try.prog 10 exec_does_g1a2_sp := gOk_of (C := exec_does_g1a2_C) (cuts := exec_does_g1a2_cuts) (by kernel_rfl) exec_does_g1a2_env Try.func10 (show Try.f10.body = some (bodyOf Try.f10) by kernel_rfl) (by kernel_rfl) (by kernel_rfl) (by kernel_rfl) fun x y h => ⟨BIG, h⟩
noncomputable def exec_does_g1a3_C : Ctx TT := ⟨tyOf, [], 0, [], layOf⟩
theorem exec_does_g1a3_env : EnvOk TT Try.prog exec_does_g1a3_C.E := envNil
def exec_does_g1a3_cuts : List (Pos × Cut) := []
noncomputable def exec_does_g1a3 (n : Nat) (x0 : Int) : Option ((Unit) × (((Unit) × (Unit)) × Unit)) := topG TT Try.prog exec_does_g1a3_C exec_does_g1a3_cuts Try.f10 (bodyOf Try.f10) ⟨[], [], [], [], []⟩ [.val (.int .u8)] [] [.fn 22 [] []] n (x0, ())
theorem exec_does_g1a3_eq (n : Nat) (x0 : Int) : exec_does_g1a3 n x0 =
  if x0 = (12 : Int) then (none) else (if x0 = (13 : Int) then (none) else (if x0 = (14 : Int) then (some ((), (((), ()), ()))) else (if x0 = (15 : Int) then (none) else (if x0 = (16 : Int) then (none) else (if x0 = (28 : Int) then (none) else (forkB (decide (x0 < (12 : Int)))
        (none)
        (none))))))) := by kernel_rfl
noncomputable def exec_does_g1a3_sp : GSpec TT := ⟨[.val (.int .u8)], [], [.fn 22 [] []], fun x => exec_does_g1a3 BIG x.1⟩
theorem exec_does_g1a3_ok : GOk TT Try.prog 10 exec_does_g1a3_sp := gOk_of (C := exec_does_g1a3_C) (cuts := exec_does_g1a3_cuts) (by kernel_rfl) exec_does_g1a3_env Try.func10 (show Try.f10.body = some (bodyOf Try.f10) by kernel_rfl) (by kernel_rfl) (by kernel_rfl) (by kernel_rfl) fun x y h => ⟨BIG, h⟩
noncomputable def exec_does_g1a4_C : Ctx TT := ⟨tyOf, [], 0, [], layOf⟩
theorem exec_does_g1a4_env : EnvOk TT Try.prog exec_does_g1a4_C.E := envNil
def exec_does_g1a4_cuts : List (Pos × Cut) := []
noncomputable def exec_does_g1a4 (n : Nat) (x0 : Int) : Option ((Unit) × (((Unit) × (Unit)) × Unit)) := topG TT Try.prog exec_does_g1a4_C exec_does_g1a4_cuts Try.f10 (bodyOf Try.f10) ⟨[], [], [], [], []⟩ [.val (.int .u8)] [] [.fn 23 [] []] n (x0, ())
theorem exec_does_g1a4_eq (n : Nat) (x0 : Int) : exec_does_g1a4 n x0 =
  if x0 = (12 : Int) then (none) else (if x0 = (13 : Int) then (none) else (if x0 = (14 : Int) then (none) else (if x0 = (15 : Int) then (some ((), (((), ()), ()))) else (if x0 = (16 : Int) then (none) else (if x0 = (28 : Int) then (none) else (forkB (decide (x0 < (12 : Int)))
        (none)
        (none))))))) := by kernel_rfl
noncomputable def exec_does_g1a4_sp : GSpec TT := ⟨[.val (.int .u8)], [], [.fn 23 [] []], fun x => exec_does_g1a4 BIG x.1⟩
theorem exec_does_g1a4_ok : GOk TT Try.prog 10 exec_does_g1a4_sp := gOk_of (C := exec_does_g1a4_C) (cuts := exec_does_g1a4_cuts) (by kernel_rfl) exec_does_g1a4_env Try.func10 (show Try.f10.body = some (bodyOf Try.f10) by kernel_rfl) (by kernel_rfl) (by kernel_rfl) (by kernel_rfl) fun x y h => ⟨BIG, h⟩
noncomputable def exec_does_g1a5_C : Ctx TT := ⟨tyOf, [], 0, [], layOf⟩
theorem exec_does_g1a5_env : EnvOk TT Try.prog exec_does_g1a5_C.E := envNil
def exec_does_g1a5_cuts : List (Pos × Cut) := []
noncomputable def exec_does_g1a5 (n : Nat) (x0 : Int) : Option ((Unit) × (((Unit) × (Unit)) × Unit)) := topG TT Try.prog exec_does_g1a5_C exec_does_g1a5_cuts Try.f10 (bodyOf Try.f10) ⟨[], [], [], [], []⟩ [.val (.int .u8)] [] [.fn 24 [] []] n (x0, ())
theorem exec_does_g1a5_eq (n : Nat) (x0 : Int) : exec_does_g1a5 n x0 =
  if x0 = (12 : Int) then (none) else (if x0 = (13 : Int) then (none) else (if x0 = (14 : Int) then (none) else (if x0 = (15 : Int) then (none) else (if x0 = (16 : Int) then (some ((), (((), ()), ()))) else (if x0 = (28 : Int) then (none) else (forkB (decide (x0 < (12 : Int)))
        (none)
        (none))))))) := by kernel_rfl
noncomputable def exec_does_g1a5_sp : GSpec TT := ⟨[.val (.int .u8)], [], [.fn 24 [] []], fun x => exec_does_g1a5 BIG x.1⟩
theorem exec_does_g1a5_ok : GOk TT Try.prog 10 exec_does_g1a5_sp := gOk_of (C := exec_does_g1a5_C) (cuts := exec_does_g1a5_cuts) (by kernel_rfl) exec_does_g1a5_env Try.func10 (show Try.f10.body = some (bodyOf Try.f10) by kernel_rfl) (by kernel_rfl) (by kernel_rfl) (by kernel_rfl) fun x y h => ⟨BIG, h⟩
noncomputable def exec_does_g1a6_C : Ctx TT := ⟨tyOf, [], 0, [], layOf⟩
theorem exec_does_g1a6_env : EnvOk TT Try.prog exec_does_g1a6_C.E := envNil
def exec_does_g1a6_cuts : List (Pos × Cut) := []
noncomputable def exec_does_g1a6 (n : Nat) (x0 : Int) : Option ((Unit) × (((Unit) × (Unit)) × Unit)) := topG TT Try.prog exec_does_g1a6_C exec_does_g1a6_cuts Try.f10 (bodyOf Try.f10) ⟨[], [], [], [], []⟩ [.val (.int .u8)] [] [.fn 25 [] []] n (x0, ())
theorem exec_does_g1a6_eq (n : Nat) (x0 : Int) : exec_does_g1a6 n x0 =
  if x0 = (12 : Int) then (none) else (if x0 = (13 : Int) then (none) else (if x0 = (14 : Int) then (none) else (if x0 = (15 : Int) then (none) else (if x0 = (16 : Int) then (none) else (if x0 = (28 : Int) then (some ((), (((), ()), ()))) else (forkB (decide (x0 < (12 : Int)))
        (none)
        (none))))))) := by kernel_rfl
noncomputable def exec_does_g1a6_sp : GSpec TT := ⟨[.val (.int .u8)], [], [.fn 25 [] []], fun x => exec_does_g1a6 BIG x.1⟩
theorem exec_does_g1a6_ok : GOk TT Try.prog 10 exec_does_g1a6_sp := gOk_of (C := exec_does_g1a6_C) (cuts := exec_does_g1a6_cuts) (by kernel_rfl) exec_does_g1a6_env Try.func10 (show Try.f10.body = some (bodyOf Try.f10) by kernel_rfl) (by kernel_rfl) (by kernel_rfl) (by kernel_rfl) fun x y h => ⟨BIG, h⟩
noncomputable def exec_does_g1a7_C : Ctx TT := ⟨tyOf, [], 0, [], layOf⟩
theorem exec_does_g1a7_env : EnvOk TT Try.prog exec_does_g1a7_C.E := envNil
def exec_does_g1a7_cuts : List (Pos × Cut) := []
noncomputable def exec_does_g1a7 (n : Nat) (x0 : Int) : Option ((Unit) × (((Unit) × (Unit)) × Unit)) := topG TT Try.prog exec_does_g1a7_C exec_does_g1a7_cuts Try.f10 (bodyOf Try.f10) ⟨[], [], [], [], []⟩ [.val (.int .u8)] [] [.fn 26 [] []] n (x0, ())
theorem exec_does_g1a7_eq (n : Nat) (x0 : Int) : exec_does_g1a7 n x0 =
  if x0 = (12 : Int) then (none) else (if x0 = (13 : Int) then (none) else (if x0 = (14 : Int) then (none) else (if x0 = (15 : Int) then (none) else (if x0 = (16 : Int) then (none) else (if x0 = (28 : Int) then (none) else (forkB (decide (x0 < (12 : Int)))
        (some ((), (((), ()), ())))
        (none))))))) := by kernel_rfl
noncomputable def exec_does_g1a7_sp : GSpec TT := ⟨[.val (.int .u8)], [], [.fn 26 [] []], fun x => exec_does_g1a7 BIG x.1⟩
theorem exec_does_g1a7_ok : GOk TT Try.prog 10 exec_does_g1a7_sp := gOk_of (C := exec_does_g1a7_C) (cuts := exec_does_g1a7_cuts) (by kernel_rfl) exec_does_g1a7_env Try.func10 (show Try.f10.body = some (bodyOf Try.f10) by kernel_rfl) (by kernel_rfl) (by kernel_rfl) (by kernel_rfl) fun x y h => ⟨BIG, h⟩
noncomputable def exec_does_g1a8_C : Ctx TT := ⟨tyOf, [], 0, [], layOf⟩
theorem exec_does_g1a8_env : EnvOk TT Try.prog exec_does_g1a8_C.E := envNil
def exec_does_g1a8_cuts : List (Pos × Cut) := []
noncomputable def exec_does_g1a8 (n : Nat) (x0 : Int) : Option ((Unit) × (((Unit) × (Unit)) × Unit)) := topG TT Try.prog exec_does_g1a8_C exec_does_g1a8_cuts Try.f10 (bodyOf Try.f10) ⟨[], [], [], [], []⟩ [.val (.int .u8)] [] [.fn 27 [] []] n (x0, ())
theorem exec_does_g1a8_eq (n : Nat) (x0 : Int) : exec_does_g1a8 n x0 =
  if x0 = (12 : Int) then (none) else (if x0 = (13 : Int) then (none) else (if x0 = (14 : Int) then (none) else (if x0 = (15 : Int) then (none) else (if x0 = (16 : Int) then (none) else (if x0 = (28 : Int) then (none) else (forkB (decide (x0 < (12 : Int)))
        (none)
        (some ((), (((), ()), ()))))))))) := by kernel_rfl
noncomputable def exec_does_g1a8_sp : GSpec TT := ⟨[.val (.int .u8)], [], [.fn 27 [] []], fun x => exec_does_g1a8 BIG x.1⟩
theorem exec_does_g1a8_ok : GOk TT Try.prog 10 exec_does_g1a8_sp := gOk_of (C := exec_does_g1a8_C) (cuts := exec_does_g1a8_cuts) (by kernel_rfl) exec_does_g1a8_env Try.func10 (show Try.f10.body = some (bodyOf Try.f10) by kernel_rfl) (by kernel_rfl) (by kernel_rfl) (by kernel_rfl) fun x y h => ⟨BIG, h⟩
noncomputable def exec_does_g1_c0 (x0 : Int) : Bool := (decide (x0 = (12 : Int)))
noncomputable def exec_does_g1_c1 (x0 : Int) : Bool := ((!(decide (x0 = (12 : Int)))) && (decide (x0 = (13 : Int))))
noncomputable def exec_does_g1_c2 (x0 : Int) : Bool := ((!(decide (x0 = (12 : Int)))) && ((!(decide (x0 = (13 : Int)))) && (decide (x0 = (14 : Int)))))
noncomputable def exec_does_g1_c3 (x0 : Int) : Bool := ((!(decide (x0 = (12 : Int)))) && ((!(decide (x0 = (13 : Int)))) && ((!(decide (x0 = (14 : Int)))) && (decide (x0 = (15 : Int))))))
noncomputable def exec_does_g1_c4 (x0 : Int) : Bool := ((!(decide (x0 = (12 : Int)))) && ((!(decide (x0 = (13 : Int)))) && ((!(decide (x0 = (14 : Int)))) && ((!(decide (x0 = (15 : Int)))) && (decide (x0 = (16 : Int)))))))
noncomputable def exec_does_g1_c5 (x0 : Int) : Bool := ((!(decide (x0 = (12 : Int)))) && ((!(decide (x0 = (13 : Int)))) && ((!(decide (x0 = (14 : Int)))) && ((!(decide (x0 = (15 : Int)))) && ((!(decide (x0 = (16 : Int)))) && (decide (x0 = (28 : Int))))))))
noncomputable def exec_does_g1_c6 (x0 : Int) : Bool := ((!(decide (x0 = (12 : Int)))) && ((!(decide (x0 = (13 : Int)))) && ((!(decide (x0 = (14 : Int)))) && ((!(decide (x0 = (15 : Int)))) && ((!(decide (x0 = (16 : Int)))) && ((!(decide (x0 = (28 : Int)))) && (decide (x0 < (12 : Int)))))))))
noncomputable def exec_machine_asks_g1_C : Ctx TT := ⟨tyOf, [], 2, [], layOf⟩
theorem exec_machine_asks_g1_env : EnvOk TT Try.prog exec_machine_asks_g1_C.E := envNil
def exec_machine_asks_g1_cuts : List (Pos × Cut) := [([false, true, false, true], ⟨[0, 7, 8, 9], [], false, []⟩)]
noncomputable def exec_machine_asks_g1 (n : Nat) (x0 : List Val) (x1 : List Int) (x2 : List Bool) (x3 : List Int) (x4 : Int) (x5 : List Int) : Option (((List Val × List Int × List Bool × List Int × Int × Unit × Unit) × List Int × Unit) × (Int × Unit)) := topG TT Try.prog exec_machine_asks_g1_C exec_machine_asks_g1_cuts Try.f34 (bodyOf Try.f34) ⟨[], [], [], [], []⟩ [.ptr 0 50 [.arr (.user 3) 11, .arr (.int .u8) 512, .arr (.bool) 512, .val (.list (.int .u8)), .val (.int .i64), .nilp], .row 3 (.int .i64)] [.blk 50 [.arr (.user 3) 11, .arr (.int .u8) 512, .arr (.bool) 512, .val (.list (.int .u8)), .val (.int .i64), .nilp], .row 3 (.int .i64)] [.val (.int .i64)] n ((x0, x1, x2, x3, x4, (), ()), x5, ())
noncomputable def exec_machine_asks_g1_L0 (n : Nat) (s8 : Int) (s9 : Int) (b0_0l : List Val) (b0_1l : List Int) (b0_2l : List Bool) (b0_3 : List Int) (b0_4 : Int) (r1 : List Int) : Option (((List Val × List Int × List Bool × List Int × Int × Unit × Unit) × List Int × Unit) × (Int × Unit)) := cutG TT Try.prog exec_machine_asks_g1_C exec_machine_asks_g1_cuts Try.f34 (bodyOf Try.f34) ⟨[], [], [], [], []⟩ [.blk 50 [.arr (.user 3) 11, .arr (.int .u8) 512, .arr (.bool) 512, .val (.list (.int .u8)), .val (.int .i64), .nilp], .row 3 (.int .i64)] [.val (.int .i64)] n [false, true, false, true] ⟨[(0, .ptr 0 0), (7, .own 1), (8, .cell ⟨.int .i64, s8⟩), (9, .cell ⟨.int .i64, s9⟩)], [.blk 50 [.arr (.user 3) 11 b0_0l, .arr (.int .u8) 512 b0_1l, .arr (.bool) 512 b0_2l, .cell ⟨.list (.int .u8), b0_3⟩, .cell ⟨.int .i64, b0_4⟩, .raw (.pointer none)], .row 3 (.int .i64) r1]⟩
theorem exec_machine_asks_g1_eq (n : Nat) (x0 : List Val) (x1 : List Int) (x2 : List Bool) (x3 : List Int) (x4 : Int) (x5 : List Int) : exec_machine_asks_g1 n x0 x1 x2 x3 x4 x5 =
  exec_machine_asks_g1_L0 n ((x5.length : Nat) : Int) (0 : Int) x0 x1 x2 x3 x4 x5 := by kernel_rfl
theorem exec_machine_asks_g1_L0_eq (n : Nat) (s8 : Int) (s9 : Int) (b0_0l : List Val) (b0_1l : List Int) (b0_2l : List Bool) (b0_3 : List Int) (b0_4 : Int) (r1 : List Int) : exec_machine_asks_g1_L0 (n + 1) s8 s9 b0_0l b0_1l b0_2l b0_3 b0_4 r1 =
  forkB (decide (s9 < s8))
  (if 0 ≤ s9 ∧ s9 < ((r1.length : Nat) : Int) then (if 0 ≤ r1.getD s9.toNat (0 : Int) ∧ r1.getD s9.toNat (0 : Int) < ((11 : Nat) : Int) then (forkB (((b0_0l.getD ((r1.getD s9.toNat (0 : Int)).toNat) dVal).kind) == (0 : Int))
   (some (((b0_0l, b0_1l, b0_2l, b0_3, b0_4, (), ()), r1, ()), ((110 : Int), ())))
   (exec_machine_asks_g1_L0 n s8 (IntKind.i64.wrap (s9 + (1 : Int))) b0_0l b0_1l b0_2l b0_3 b0_4 r1)) else none) else none)
  (some (((b0_0l, b0_1l, b0_2l, b0_3, b0_4, (), ()), r1, ()), ((0 : Int), ()))) := by kernel_rfl
noncomputable def exec_machine_asks_g1_sp : GSpec TT := ⟨[.ptr 0 50 [.arr (.user 3) 11, .arr (.int .u8) 512, .arr (.bool) 512, .val (.list (.int .u8)), .val (.int .i64), .nilp], .row 3 (.int .i64)], [.blk 50 [.arr (.user 3) 11, .arr (.int .u8) 512, .arr (.bool) 512, .val (.list (.int .u8)), .val (.int .i64), .nilp], .row 3 (.int .i64)], [.val (.int .i64)], fun x => exec_machine_asks_g1 BIG x.1.1 x.1.2.1 x.1.2.2.1 x.1.2.2.2.1 x.1.2.2.2.2.1 x.2.1⟩
theorem exec_machine_asks_g1_ok : GOk TT Try.prog 34 exec_machine_asks_g1_sp := gOk_of (C := exec_machine_asks_g1_C) (cuts := exec_machine_asks_g1_cuts) (by kernel_rfl) exec_machine_asks_g1_env Try.func34 (show Try.f34.body = some (bodyOf Try.f34) by kernel_rfl) (by kernel_rfl) (by kernel_rfl) (by kernel_rfl) fun x y h => ⟨BIG, h⟩
theorem exec_machine_asks_g1_L0_keep0 : ∀ (n : Nat) (s8 : Int) (s9 : Int) (b0_0l : List Val) (b0_1l : List Int) (b0_2l : List Bool) (b0_3 : List Int) (b0_4 : Int) (r1 : List Int) (y), exec_machine_asks_g1_L0 n s8 s9 b0_0l b0_1l b0_2l b0_3 b0_4 r1 = some y → y.1.1 = (b0_0l, b0_1l, b0_2l, b0_3, b0_4, (), ()) := by
  intro n
  induction n with
  | zero =>
    intro s8 s9 b0_0l b0_1l b0_2l b0_3 b0_4 r1 y h
    exact absurd h (by intro h; cases h)
  | succ n ih =>
    intro s8 s9 b0_0l b0_1l b0_2l b0_3 b0_4 r1 y h
    rw [exec_machine_asks_g1_L0_eq] at h
    try simp only [forkB] at h
    repeat' split at h
    all_goals first | (cases h; done) | (cases h; rfl) | exact ih _ _ _ _ _ _ _ _ _ h
theorem exec_machine_asks_g1_keep0 (n : Nat) (x0 : List Val) (x1 : List Int) (x2 : List Bool) (x3 : List Int) (x4 : Int) (x5 : List Int) (y) (h : exec_machine_asks_g1 n x0 x1 x2 x3 x4 x5 = some y) : y.1.1 = (x0, x1, x2, x3, x4, (), ()) := by
  rw [exec_machine_asks_g1_eq] at h
  try simp only [forkB] at h
  repeat' split at h
  all_goals first | (cases h; done) | (cases h; rfl) | exact exec_machine_asks_g1_L0_keep0 _ _ _ _ _ _ _ _ _ _ h
noncomputable def exec_machine_asks_g1_ksp : KSpec TT := ⟨0, 50, [.arr (.user 3) 11, .arr (.int .u8) 512, .arr (.bool) 512, .val (.list (.int .u8)), .val (.int .i64), .nilp], [.row 3 (.int .i64)], [.row 3 (.int .i64)], [.val (.int .i64)], exec_machine_asks_g1_sp.g⟩
theorem exec_machine_asks_g1_keep : ∀ x y, exec_machine_asks_g1_ksp.g x = some y → y.1.1 = x.1 := by
  intro x y h
  have e : exec_machine_asks_g1_ksp.g x = exec_machine_asks_g1 BIG x.1.1 x.1.2.1 x.1.2.2.1 x.1.2.2.2.1 x.1.2.2.2.2.1 x.2.1 := by kernel_rfl
  exact exec_machine_asks_g1_keep0 BIG x.1.1 x.1.2.1 x.1.2.2.1 x.1.2.2.2.1 x.1.2.2.2.2.1 x.2.1 y (e.symm.trans h)
theorem exec_machine_asks_g1_toG : exec_machine_asks_g1_ksp.toG = exec_machine_asks_g1_sp := by kernel_rfl
theorem exec_machine_asks_g1_kok : GOk TT Try.prog 34 exec_machine_asks_g1_ksp.toG := exec_machine_asks_g1_toG ▸ exec_machine_asks_g1_ok
noncomputable def aluWide_C : Ctx TT := ⟨tyOf, [], 0, [], layOf⟩
theorem aluWide_env : EnvOk TT Try.prog aluWide_C.E := envNil
def aluWide_cuts : List (Pos × Cut) := []
noncomputable def aluWide (n : Nat) (x0 : Int) : Option (Int) := topF TT Try.prog aluWide_C aluWide_cuts Try.f37 (bodyOf Try.f37) ⟨[], []⟩ [.val (.int .i64)] [.val (.int .u64)] n x0
theorem aluWide_eq (n : Nat) (x0 : Int) : aluWide n x0 =
  some (IntKind.u64.wrap x0) := by kernel_rfl
noncomputable def aluWide_sp : FnSpec TT := ⟨[.val (.int .i64)], [.val (.int .u64)], fun x => aluWide BIG x⟩
theorem aluWide_ok : FnOk TT Try.prog 37 aluWide_sp := fnOk_of (C := aluWide_C) (by kernel_rfl) aluWide_env Try.func37 (show Try.f37.body = some (bodyOf Try.f37) by kernel_rfl) (by kernel_rfl) (by kernel_rfl) (cuts := aluWide_cuts) fun x y h => ⟨BIG, h⟩
noncomputable def exec_machine_asks_g2_C : Ctx TT := ⟨tyOf, [], 1, [], layOf⟩
theorem exec_machine_asks_g2_env : EnvOk TT Try.prog exec_machine_asks_g2_C.E := envNil
def exec_machine_asks_g2_cuts : List (Pos × Cut) := [([false, true, false, true], ⟨[0, 7, 8, 9], [(7, 3, .int .i64)], false, []⟩)]
noncomputable def exec_machine_asks_g2 (n : Nat) (x0 : List Val) (x1 : List Int) (x2 : List Bool) (x3 : List Int) (x4 : Int) : Option (((List Val × List Int × List Bool × List Int × Int × Unit × Unit) × Unit) × (Int × Unit)) := topG TT Try.prog exec_machine_asks_g2_C exec_machine_asks_g2_cuts Try.f34 (bodyOf Try.f34) ⟨[], [], [], [], []⟩ [.ptr 0 50 [.arr (.user 3) 11, .arr (.int .u8) 512, .arr (.bool) 512, .val (.list (.int .u8)), .val (.int .i64), .nilp], .nils] [.blk 50 [.arr (.user 3) 11, .arr (.int .u8) 512, .arr (.bool) 512, .val (.list (.int .u8)), .val (.int .i64), .nilp]] [.val (.int .i64)] n ((x0, x1, x2, x3, x4, (), ()), (), ())
noncomputable def exec_machine_asks_g2_L0 (n : Nat) (s8 : Int) (s9 : Int) (b0_0l : List Val) (b0_1l : List Int) (b0_2l : List Bool) (b0_3 : List Int) (b0_4 : Int) (r1 : List Int) : Option (((List Val × List Int × List Bool × List Int × Int × Unit × Unit) × Unit) × (Int × Unit)) := cutG TT Try.prog exec_machine_asks_g2_C exec_machine_asks_g2_cuts Try.f34 (bodyOf Try.f34) ⟨[], [], [], [], []⟩ [.blk 50 [.arr (.user 3) 11, .arr (.int .u8) 512, .arr (.bool) 512, .val (.list (.int .u8)), .val (.int .i64), .nilp]] [.val (.int .i64)] n [false, true, false, true] ⟨[(0, .ptr 0 0), (7, .own 1), (8, .cell ⟨.int .i64, s8⟩), (9, .cell ⟨.int .i64, s9⟩)], [.blk 50 [.arr (.user 3) 11 b0_0l, .arr (.int .u8) 512 b0_1l, .arr (.bool) 512 b0_2l, .cell ⟨.list (.int .u8), b0_3⟩, .cell ⟨.int .i64, b0_4⟩, .raw (.pointer none)], .row 3 (.int .i64) r1]⟩
theorem exec_machine_asks_g2_eq (n : Nat) (x0 : List Val) (x1 : List Int) (x2 : List Bool) (x3 : List Int) (x4 : Int) : exec_machine_asks_g2 n x0 x1 x2 x3 x4 =
  exec_machine_asks_g2_L0 n (0 : Int) (0 : Int) x0 x1 x2 x3 x4 ([] : List Int) := by kernel_rfl
theorem exec_machine_asks_g2_L0_eq (n : Nat) (s8 : Int) (s9 : Int) (b0_0l : List Val) (b0_1l : List Int) (b0_2l : List Bool) (b0_3 : List Int) (b0_4 : Int) (r1 : List Int) : exec_machine_asks_g2_L0 (n + 1) s8 s9 b0_0l b0_1l b0_2l b0_3 b0_4 r1 =
  forkB (decide (s9 < s8))
  (if 0 ≤ s9 ∧ s9 < ((r1.length : Nat) : Int) then (if 0 ≤ r1.getD s9.toNat (0 : Int) ∧ r1.getD s9.toNat (0 : Int) < ((11 : Nat) : Int) then (forkB (((b0_0l.getD ((r1.getD s9.toNat (0 : Int)).toNat) dVal).kind) == (0 : Int))
   (some (((b0_0l, b0_1l, b0_2l, b0_3, b0_4, (), ()), ()), ((110 : Int), ())))
   (exec_machine_asks_g2_L0 n s8 (IntKind.i64.wrap (s9 + (1 : Int))) b0_0l b0_1l b0_2l b0_3 b0_4 r1)) else none) else none)
  (some (((b0_0l, b0_1l, b0_2l, b0_3, b0_4, (), ()), ()), ((0 : Int), ()))) := by kernel_rfl
noncomputable def exec_machine_asks_g2_sp : GSpec TT := ⟨[.ptr 0 50 [.arr (.user 3) 11, .arr (.int .u8) 512, .arr (.bool) 512, .val (.list (.int .u8)), .val (.int .i64), .nilp], .nils], [.blk 50 [.arr (.user 3) 11, .arr (.int .u8) 512, .arr (.bool) 512, .val (.list (.int .u8)), .val (.int .i64), .nilp]], [.val (.int .i64)], fun x => exec_machine_asks_g2 BIG x.1.1 x.1.2.1 x.1.2.2.1 x.1.2.2.2.1 x.1.2.2.2.2.1⟩
theorem exec_machine_asks_g2_ok : GOk TT Try.prog 34 exec_machine_asks_g2_sp := gOk_of (C := exec_machine_asks_g2_C) (cuts := exec_machine_asks_g2_cuts) (by kernel_rfl) exec_machine_asks_g2_env Try.func34 (show Try.f34.body = some (bodyOf Try.f34) by kernel_rfl) (by kernel_rfl) (by kernel_rfl) (by kernel_rfl) fun x y h => ⟨BIG, h⟩
theorem exec_machine_asks_g2_L0_keep0 : ∀ (n : Nat) (s8 : Int) (s9 : Int) (b0_0l : List Val) (b0_1l : List Int) (b0_2l : List Bool) (b0_3 : List Int) (b0_4 : Int) (r1 : List Int) (y), exec_machine_asks_g2_L0 n s8 s9 b0_0l b0_1l b0_2l b0_3 b0_4 r1 = some y → y.1.1 = (b0_0l, b0_1l, b0_2l, b0_3, b0_4, (), ()) := by
  intro n
  induction n with
  | zero =>
    intro s8 s9 b0_0l b0_1l b0_2l b0_3 b0_4 r1 y h
    exact absurd h (by intro h; cases h)
  | succ n ih =>
    intro s8 s9 b0_0l b0_1l b0_2l b0_3 b0_4 r1 y h
    rw [exec_machine_asks_g2_L0_eq] at h
    try simp only [forkB] at h
    repeat' split at h
    all_goals first | (cases h; done) | (cases h; rfl) | exact ih _ _ _ _ _ _ _ _ _ h
theorem exec_machine_asks_g2_keep0 (n : Nat) (x0 : List Val) (x1 : List Int) (x2 : List Bool) (x3 : List Int) (x4 : Int) (y) (h : exec_machine_asks_g2 n x0 x1 x2 x3 x4 = some y) : y.1.1 = (x0, x1, x2, x3, x4, (), ()) := by
  rw [exec_machine_asks_g2_eq] at h
  try simp only [forkB] at h
  repeat' split at h
  all_goals first | (cases h; done) | (cases h; rfl) | exact exec_machine_asks_g2_L0_keep0 _ _ _ _ _ _ _ _ _ _ h
noncomputable def exec_machine_asks_g2_ksp : KSpec TT := ⟨0, 50, [.arr (.user 3) 11, .arr (.int .u8) 512, .arr (.bool) 512, .val (.list (.int .u8)), .val (.int .i64), .nilp], [.nils], [], [.val (.int .i64)], exec_machine_asks_g2_sp.g⟩
theorem exec_machine_asks_g2_keep : ∀ x y, exec_machine_asks_g2_ksp.g x = some y → y.1.1 = x.1 := by
  intro x y h
  have e : exec_machine_asks_g2_ksp.g x = exec_machine_asks_g2 BIG x.1.1 x.1.2.1 x.1.2.2.1 x.1.2.2.2.1 x.1.2.2.2.2.1 := by kernel_rfl
  exact exec_machine_asks_g2_keep0 BIG x.1.1 x.1.2.1 x.1.2.2.1 x.1.2.2.2.1 x.1.2.2.2.2.1 y (e.symm.trans h)
theorem exec_machine_asks_g2_toG : exec_machine_asks_g2_ksp.toG = exec_machine_asks_g2_sp := by kernel_rfl
theorem exec_machine_asks_g2_kok : GOk TT Try.prog 34 exec_machine_asks_g2_ksp.toG := exec_machine_asks_g2_toG ▸ exec_machine_asks_g2_ok
noncomputable def exec_machine_second_g1_C : Ctx TT := ⟨tyOf, [(34, exec_machine_asks_g2_ksp.toCall (exec_machine_asks_g1_ksp.toCall (noCall TT))), (37, aluWide_sp.toCall)], 1, [(2, 1)], layOf⟩
theorem exec_machine_second_g1_env : EnvOk TT Try.prog exec_machine_second_g1_C.E := envG (kCall_ok exec_machine_asks_g2_kok exec_machine_asks_g2_keep (kCall_ok exec_machine_asks_g1_kok exec_machine_asks_g1_keep (noCall_ok 34))) (envG (fnCall_ok aluWide_ok) (envNil))
def exec_machine_second_g1_cuts : List (Pos × Cut) := []
noncomputable def exec_machine_second_g1 (n : Nat) (x0 : List Val) (x1 : List Int) (x2 : List Bool) (x3 : List Int) (x4 : Int) (x5 : Ins) : Option (((List Val × List Int × List Bool × List Int × Int × Unit × Unit) × Unit) × (Val × Int × Unit)) := topG TT Try.prog exec_machine_second_g1_C exec_machine_second_g1_cuts Try.f33 (bodyOf Try.f33) ⟨[], [], [], [], []⟩ [.ptr 0 50 [.arr (.user 3) 11, .arr (.int .u8) 512, .arr (.bool) 512, .val (.list (.int .u8)), .val (.int .i64), .nilp], .val (.user 0), .nils] [.blk 50 [.arr (.user 3) 11, .arr (.int .u8) 512, .arr (.bool) 512, .val (.list (.int .u8)), .val (.int .i64), .nilp]] [.val (.user 3), .val (.int .i64)] n ((x0, x1, x2, x3, x4, (), ()), x5, (), ())
theorem exec_machine_second_g1_eq (n : Nat) (x0 : List Val) (x1 : List Int) (x2 : List Bool) (x3 : List Int) (x4 : Int) (x5 : Ins) : exec_machine_second_g1 n x0 x1 x2 x3 x4 x5 =
  forkB (!x5.UseImm)
  (if 0 ≤ x5.Src ∧ x5.Src < ((11 : Nat) : Int) then (obind (exec_machine_asks_g1 BIG x0 x1 x2 x3 x4 ([x5.Src] : List Int)) fun y1 =>
   some (((x0, x1, x2, x3, x4, (), ()), ()), (x0.getD x5.Src.toNat dVal, y1.2.1, ()))) else none)
  (obind (aluWide BIG x5.Imm) fun y2 =>
   obind (exec_machine_asks_g2 BIG x0 x1 x2 x3 x4) fun y3 =>
   some (((x0, x1, x2, x3, x4, (), ()), ()), ((⟨(1 : Int), y2⟩ : Val), y3.2.1, ()))) := by kernel_rfl
noncomputable def exec_machine_second_g1_sp : GSpec TT := ⟨[.ptr 0 50 [.arr (.user 3) 11, .arr (.int .u8) 512, .arr (.bool) 512, .val (.list (.int .u8)), .val (.int .i64), .nilp], .val (.user 0), .nils], [.blk 50 [.arr (.user 3) 11, .arr (.int .u8) 512, .arr (.bool) 512, .val (.list (.int .u8)), .val (.int .i64), .nilp]], [.val (.user 3), .val (.int .i64)], fun x => exec_machine_second_g1 BIG x.1.1 x.1.2.1 x.1.2.2.1 x.1.2.2.2.1 x.1.2.2.2.2.1 x.2.1⟩
theorem exec_machine_second_g1_ok : GOk TT Try.prog 33 exec_machine_second_g1_sp := gOk_of (C := exec_machine_second_g1_C) (cuts := exec_machine_second_g1_cuts) (by kernel_rfl) exec_machine_second_g1_env Try.func33 (show Try.f33.body = some (bodyOf Try.f33) by kernel_rfl) (by kernel_rfl) (by kernel_rfl) (by kernel_rfl) fun x y h => ⟨BIG, h⟩
noncomputable def exec_machine_move_g1_C : Ctx TT := ⟨tyOf, [(33, exec_machine_second_g1_sp.toCall (noCall TT))], 1, [(8, 1)], layOf⟩
theorem exec_machine_move_g1_env : EnvOk TT Try.prog exec_machine_move_g1_C.E := envG (gCall_ok exec_machine_second_g1_ok (noCall_ok 33)) (envNil)
def exec_machine_move_g1_cuts : List (Pos × Cut) := [([true, true], ⟨[0, 3, 5], [], false, []⟩), ([true, true, false, false, true, true], ⟨[0, 3, 5, 17], [], false, []⟩)]
noncomputable def exec_machine_move_g1 (n : Nat) (x0 : List Val) (x1 : List Int) (x2 : List Bool) (x3 : List Int) (x4 : Int) (x5 : Ins) : Option (((List Val × List Int × List Bool × List Int × Int × Unit × Unit) × Unit) × (Int × Unit)) := topG TT Try.prog exec_machine_move_g1_C exec_machine_move_g1_cuts Try.f20 (bodyOf Try.f20) ⟨[], [], [], [], []⟩ [.ptr 0 50 [.arr (.user 3) 11, .arr (.int .u8) 512, .arr (.bool) 512, .val (.list (.int .u8)), .val (.int .i64), .nilp], .val (.user 0)] [.blk 50 [.arr (.user 3) 11, .arr (.int .u8) 512, .arr (.bool) 512, .val (.list (.int .u8)), .val (.int .i64), .nilp]] [.val (.int .i64)] n ((x0, x1, x2, x3, x4, (), ()), x5, ())
noncomputable def exec_machine_move_g1_J1 (n : Nat) (s17 : Bool) (b0_0l : List Val) (b0_1l : List Int) (b0_2l : List Bool) (b0_3 : List Int) (b0_4 : Int) (b1_0 : Int) (b1_1 : Bool) (b1_2 : Int) (b1_3 : Int) (b1_4 : Bool) (b1_5 : Int) (b1_6 : Int) (b1_7 : Int) (b2_0 : Int) (b2_1 : Int) : Option (((List Val × List Int × List Bool × List Int × Int × Unit × Unit) × Unit) × (Int × Unit)) := cutG TT Try.prog exec_machine_move_g1_C exec_machine_move_g1_cuts Try.f20 (bodyOf Try.f20) ⟨[], [], [], [], []⟩ [.blk 50 [.arr (.user 3) 11, .arr (.int .u8) 512, .arr (.bool) 512, .val (.list (.int .u8)), .val (.int .i64), .nilp]] [.val (.int .i64)] n [true, true, false, false, true, true] ⟨[(0, .ptr 0 0), (3, .ptr 1 0), (5, .ptr 2 0), (17, .cell ⟨.bool, s17⟩)], [.blk 50 [.arr (.user 3) 11 b0_0l, .arr (.int .u8) 512 b0_1l, .arr (.bool) 512 b0_2l, .cell ⟨.list (.int .u8), b0_3⟩, .cell ⟨.int .i64, b0_4⟩, .raw (.pointer none)], .blk 28 [.cell ⟨.int .u8, b1_0⟩, .cell ⟨.bool, b1_1⟩, .cell ⟨.int .i64, b1_2⟩, .cell ⟨.int .i64, b1_3⟩, .cell ⟨.bool, b1_4⟩, .cell ⟨.int .i64, b1_5⟩, .cell ⟨.int .i64, b1_6⟩, .cell ⟨.int .i64, b1_7⟩], .blk 44 [.cell ⟨.int .u8, b2_0⟩, .cell ⟨.int .u64, b2_1⟩]]⟩
noncomputable def exec_machine_move_g1_J0 (n : Nat) (b0_0l : List Val) (b0_1l : List Int) (b0_2l : List Bool) (b0_3 : List Int) (b0_4 : Int) (b1_0 : Int) (b1_1 : Bool) (b1_2 : Int) (b1_3 : Int) (b1_4 : Bool) (b1_5 : Int) (b1_6 : Int) (b1_7 : Int) (b2_0 : Int) (b2_1 : Int) : Option (((List Val × List Int × List Bool × List Int × Int × Unit × Unit) × Unit) × (Int × Unit)) := cutG TT Try.prog exec_machine_move_g1_C exec_machine_move_g1_cuts Try.f20 (bodyOf Try.f20) ⟨[], [], [], [], []⟩ [.blk 50 [.arr (.user 3) 11, .arr (.int .u8) 512, .arr (.bool) 512, .val (.list (.int .u8)), .val (.int .i64), .nilp]] [.val (.int .i64)] n [true, true] ⟨[(0, .ptr 0 0), (3, .ptr 1 0), (5, .ptr 2 0)], [.blk 50 [.arr (.user 3) 11 b0_0l, .arr (.int .u8) 512 b0_1l, .arr (.bool) 512 b0_2l, .cell ⟨.list (.int .u8), b0_3⟩, .cell ⟨.int .i64, b0_4⟩, .raw (.pointer none)], .blk 28 [.cell ⟨.int .u8, b1_0⟩, .cell ⟨.bool, b1_1⟩, .cell ⟨.int .i64, b1_2⟩, .cell ⟨.int .i64, b1_3⟩, .cell ⟨.bool, b1_4⟩, .cell ⟨.int .i64, b1_5⟩, .cell ⟨.int .i64, b1_6⟩, .cell ⟨.int .i64, b1_7⟩], .blk 44 [.cell ⟨.int .u8, b2_0⟩, .cell ⟨.int .u64, b2_1⟩]]⟩
theorem exec_machine_move_g1_eq (n : Nat) (x0 : List Val) (x1 : List Int) (x2 : List Bool) (x3 : List Int) (x4 : Int) (x5 : Ins) : exec_machine_move_g1 n x0 x1 x2 x3 x4 x5 =
  obind (exec_machine_second_g1 BIG x0 x1 x2 x3 x4 x5) fun y1 =>
  forkB (y1.2.2.1 != (0 : Int))
  (some (((y1.1.1.1, y1.1.1.2.1, y1.1.1.2.2.1, y1.1.1.2.2.2.1, y1.1.1.2.2.2.2.1, (), ()), ()), (y1.2.2.1, ())))
  (forkB x5.Narrow
   (exec_machine_move_g1_J1 n (y1.2.1.kind != (1 : Int)) y1.1.1.1 y1.1.1.2.1 y1.1.1.2.2.1 y1.1.1.2.2.2.1 y1.1.1.2.2.2.2.1 x5.Op x5.Narrow x5.Dst x5.Src x5.UseImm x5.Off x5.Imm x5.Size y1.2.1.kind y1.2.1.n)
   (exec_machine_move_g1_J1 n false y1.1.1.1 y1.1.1.2.1 y1.1.1.2.2.1 y1.1.1.2.2.2.1 y1.1.1.2.2.2.2.1 x5.Op x5.Narrow x5.Dst x5.Src x5.UseImm x5.Off x5.Imm x5.Size y1.2.1.kind y1.2.1.n)) := by kernel_rfl
theorem exec_machine_move_g1_J1_eq (n : Nat) (s17 : Bool) (b0_0l : List Val) (b0_1l : List Int) (b0_2l : List Bool) (b0_3 : List Int) (b0_4 : Int) (b1_0 : Int) (b1_1 : Bool) (b1_2 : Int) (b1_3 : Int) (b1_4 : Bool) (b1_5 : Int) (b1_6 : Int) (b1_7 : Int) (b2_0 : Int) (b2_1 : Int) : exec_machine_move_g1_J1 (n + 1) s17 b0_0l b0_1l b0_2l b0_3 b0_4 b1_0 b1_1 b1_2 b1_3 b1_4 b1_5 b1_6 b1_7 b2_0 b2_1 =
  forkB s17
  (some (((b0_0l, b0_1l, b0_2l, b0_3, b0_4, (), ()), ()), ((114 : Int), ())))
  (forkB b1_1
   (exec_machine_move_g1_J0 n b0_0l b0_1l b0_2l b0_3 b0_4 b1_0 b1_1 b1_2 b1_3 b1_4 b1_5 b1_6 b1_7 b2_0 (IntKind.u64.wrap (IntKind.u32.wrap b2_1)))
   (exec_machine_move_g1_J0 n b0_0l b0_1l b0_2l b0_3 b0_4 b1_0 b1_1 b1_2 b1_3 b1_4 b1_5 b1_6 b1_7 b2_0 b2_1)) := by kernel_rfl
theorem exec_machine_move_g1_J0_eq (n : Nat) (b0_0l : List Val) (b0_1l : List Int) (b0_2l : List Bool) (b0_3 : List Int) (b0_4 : Int) (b1_0 : Int) (b1_1 : Bool) (b1_2 : Int) (b1_3 : Int) (b1_4 : Bool) (b1_5 : Int) (b1_6 : Int) (b1_7 : Int) (b2_0 : Int) (b2_1 : Int) : exec_machine_move_g1_J0 (n + 1) b0_0l b0_1l b0_2l b0_3 b0_4 b1_0 b1_1 b1_2 b1_3 b1_4 b1_5 b1_6 b1_7 b2_0 b2_1 =
  if 0 ≤ b1_2 ∧ b1_2 < ((11 : Nat) : Int) then (some (((b0_0l.set b1_2.toNat (⟨b2_0, b2_1⟩ : Val), b0_1l, b0_2l, b0_3, b0_4, (), ()), ()), ((0 : Int), ()))) else none := by kernel_rfl
noncomputable def exec_machine_move_g1_sp : GSpec TT := ⟨[.ptr 0 50 [.arr (.user 3) 11, .arr (.int .u8) 512, .arr (.bool) 512, .val (.list (.int .u8)), .val (.int .i64), .nilp], .val (.user 0)], [.blk 50 [.arr (.user 3) 11, .arr (.int .u8) 512, .arr (.bool) 512, .val (.list (.int .u8)), .val (.int .i64), .nilp]], [.val (.int .i64)], fun x => exec_machine_move_g1 BIG x.1.1 x.1.2.1 x.1.2.2.1 x.1.2.2.2.1 x.1.2.2.2.2.1 x.2.1⟩
theorem exec_machine_move_g1_ok : GOk TT Try.prog 20 exec_machine_move_g1_sp := gOk_of (C := exec_machine_move_g1_C) (cuts := exec_machine_move_g1_cuts) (by kernel_rfl) exec_machine_move_g1_env Try.func20 (show Try.f20.body = some (bodyOf Try.f20) by kernel_rfl) (by kernel_rfl) (by kernel_rfl) (by kernel_rfl) fun x y h => ⟨BIG, h⟩
noncomputable def exec_machine_turn_g1_C : Ctx TT := ⟨tyOf, [(34, exec_machine_asks_g2_ksp.toCall (exec_machine_asks_g1_ksp.toCall (noCall TT))), (35, aluDo_sp.toCall)], 1, [], layOf⟩
theorem exec_machine_turn_g1_env : EnvOk TT Try.prog exec_machine_turn_g1_C.E := envG (kCall_ok exec_machine_asks_g2_kok exec_machine_asks_g2_keep (kCall_ok exec_machine_asks_g1_kok exec_machine_asks_g1_keep (noCall_ok 34))) (envG (fnCall_ok aluDo_ok) (envNil))
def exec_machine_turn_g1_cuts : List (Pos × Cut) := []
noncomputable def exec_machine_turn_g1 (n : Nat) (x0 : List Val) (x1 : List Int) (x2 : List Bool) (x3 : List Int) (x4 : Int) (x5 : Ins) : Option (((List Val × List Int × List Bool × List Int × Int × Unit × Unit) × Unit) × (Int × Unit)) := topG TT Try.prog exec_machine_turn_g1_C exec_machine_turn_g1_cuts Try.f21 (bodyOf Try.f21) ⟨[], [], [], [], []⟩ [.ptr 0 50 [.arr (.user 3) 11, .arr (.int .u8) 512, .arr (.bool) 512, .val (.list (.int .u8)), .val (.int .i64), .nilp], .val (.user 0)] [.blk 50 [.arr (.user 3) 11, .arr (.int .u8) 512, .arr (.bool) 512, .val (.list (.int .u8)), .val (.int .i64), .nilp]] [.val (.int .i64)] n ((x0, x1, x2, x3, x4, (), ()), x5, ())
theorem exec_machine_turn_g1_eq (n : Nat) (x0 : List Val) (x1 : List Int) (x2 : List Bool) (x3 : List Int) (x4 : Int) (x5 : Ins) : exec_machine_turn_g1 n x0 x1 x2 x3 x4 x5 =
  obind (exec_machine_asks_g1 BIG x0 x1 x2 x3 x4 ([x5.Dst] : List Int)) fun y1 =>
  forkB (y1.2.1 != (0 : Int))
  (some (((x0, x1, x2, x3, x4, (), ()), ()), (y1.2.1, ())))
  (if 0 ≤ x5.Dst ∧ x5.Dst < ((11 : Nat) : Int) then (forkB (((x0.getD x5.Dst.toNat dVal).kind) != (1 : Int))
   (some (((x0, x1, x2, x3, x4, (), ()), ()), ((114 : Int), ())))
   (obind (aluDo BIG x5.Op x5.Narrow ((x0.getD x5.Dst.toNat dVal).n) (0 : Int)) fun y2 =>
    some (((x0.set x5.Dst.toNat (⟨(x0.getD x5.Dst.toNat dVal).kind, y2.1⟩ : Val), x1, x2, x3, x4, (), ()), ()), (y2.2, ())))) else none) := by kernel_rfl
noncomputable def exec_machine_turn_g1_sp : GSpec TT := ⟨[.ptr 0 50 [.arr (.user 3) 11, .arr (.int .u8) 512, .arr (.bool) 512, .val (.list (.int .u8)), .val (.int .i64), .nilp], .val (.user 0)], [.blk 50 [.arr (.user 3) 11, .arr (.int .u8) 512, .arr (.bool) 512, .val (.list (.int .u8)), .val (.int .i64), .nilp]], [.val (.int .i64)], fun x => exec_machine_turn_g1 BIG x.1.1 x.1.2.1 x.1.2.2.1 x.1.2.2.2.1 x.1.2.2.2.2.1 x.2.1⟩
theorem exec_machine_turn_g1_ok : GOk TT Try.prog 21 exec_machine_turn_g1_sp := gOk_of (C := exec_machine_turn_g1_C) (cuts := exec_machine_turn_g1_cuts) (by kernel_rfl) exec_machine_turn_g1_env Try.func21 (show Try.f21.body = some (bodyOf Try.f21) by kernel_rfl) (by kernel_rfl) (by kernel_rfl) (by kernel_rfl) fun x y h => ⟨BIG, h⟩
noncomputable def exec_frame_C : Ctx TT := ⟨tyOf, [(37, aluWide_sp.toCall)], 0, [], layOf⟩
theorem exec_frame_env : EnvOk TT Try.prog exec_frame_C.E := envG (fnCall_ok aluWide_ok) (envNil)
def exec_frame_cuts : List (Pos × Cut) := []
noncomputable def exec_frame (n : Nat) (x0 : Int) (x1 : Ins) : Option (Int × Int) := topF TT Try.prog exec_frame_C exec_frame_cuts Try.f38 (bodyOf Try.f38) ⟨[], []⟩ [.val (.int .u64), .val (.user 0)] [.val (.int .i64), .val (.int .i64)] n (x0, x1)
theorem exec_frame_eq (n : Nat) (x0 : Int) (x1 : Ins) : exec_frame n x0 x1 =
  obind (aluWide BIG x1.Off) fun y1 =>
  forkB (decide ((IntKind.i64.wrap ((IntKind.i64.wrap (IntKind.u64.wrap (x0 + y1))) + (512 : Int))) < (0 : Int)))
  (some ((0 : Int), (112 : Int)))
  (forkB (decide ((IntKind.i64.wrap ((IntKind.i64.wrap (IntKind.u64.wrap (x0 + y1))) + (512 : Int))) > (IntKind.i64.wrap ((512 : Int) - x1.Size))))
   (some ((0 : Int), (112 : Int)))
   (some (IntKind.i64.wrap ((IntKind.i64.wrap (IntKind.u64.wrap (x0 + y1))) + (512 : Int)), (0 : Int)))) := by kernel_rfl
noncomputable def exec_frame_sp : FnSpec TT := ⟨[.val (.int .u64), .val (.user 0)], [.val (.int .i64), .val (.int .i64)], fun x => exec_frame BIG x.1 x.2⟩
theorem exec_frame_ok : FnOk TT Try.prog 38 exec_frame_sp := fnOk_of (C := exec_frame_C) (by kernel_rfl) exec_frame_env Try.func38 (show Try.f38.body = some (bodyOf Try.f38) by kernel_rfl) (by kernel_rfl) (by kernel_rfl) (cuts := exec_frame_cuts) fun x y h => ⟨BIG, h⟩
noncomputable def exec_machine_load_g1_C : Ctx TT := ⟨tyOf, [(34, exec_machine_asks_g2_ksp.toCall (exec_machine_asks_g1_ksp.toCall (noCall TT))), (37, aluWide_sp.toCall), (36, packetGet_sp.toCall), (38, exec_frame_sp.toCall)], 1, [(4, 1), (24, 1)], layOf⟩
theorem exec_machine_load_g1_env : EnvOk TT Try.prog exec_machine_load_g1_C.E := envG (kCall_ok exec_machine_asks_g2_kok exec_machine_asks_g2_keep (kCall_ok exec_machine_asks_g1_kok exec_machine_asks_g1_keep (noCall_ok 34))) (envG (fnCall_ok aluWide_ok) (envG (fnCall_ok packetGet_ok) (envG (fnCall_ok exec_frame_ok) (envNil))))
def exec_machine_load_g1_cuts : List (Pos × Cut) := [([true, true, true, true], ⟨[0, 3, 7], [], false, []⟩), ([false, true, false, true, true, true, true, true, true, false, true, false, true, true, true, true], ⟨[0, 3, 10, 41, 42], [], false, []⟩)]
noncomputable def exec_machine_load_g1 (n : Nat) (x0 : List Val) (x1 : List Int) (x2 : List Bool) (x3 : List Int) (x4 : Int) (x5 : Ins) : Option (((List Val × List Int × List Bool × List Int × Int × Unit × Unit) × Unit) × (Int × Unit)) := topG TT Try.prog exec_machine_load_g1_C exec_machine_load_g1_cuts Try.f22 (bodyOf Try.f22) ⟨[], [], [], [], []⟩ [.ptr 0 50 [.arr (.user 3) 11, .arr (.int .u8) 512, .arr (.bool) 512, .val (.list (.int .u8)), .val (.int .i64), .nilp], .val (.user 0)] [.blk 50 [.arr (.user 3) 11, .arr (.int .u8) 512, .arr (.bool) 512, .val (.list (.int .u8)), .val (.int .i64), .nilp]] [.val (.int .i64)] n ((x0, x1, x2, x3, x4, (), ()), x5, ())
noncomputable def exec_machine_load_g1_J0 (n : Nat) (s7 : Int) (b0_0l : List Val) (b0_1l : List Int) (b0_2l : List Bool) (b0_3 : List Int) (b0_4 : Int) (b1_0 : Int) (b1_1 : Bool) (b1_2 : Int) (b1_3 : Int) (b1_4 : Bool) (b1_5 : Int) (b1_6 : Int) (b1_7 : Int) : Option (((List Val × List Int × List Bool × List Int × Int × Unit × Unit) × Unit) × (Int × Unit)) := cutG TT Try.prog exec_machine_load_g1_C exec_machine_load_g1_cuts Try.f22 (bodyOf Try.f22) ⟨[], [], [], [], []⟩ [.blk 50 [.arr (.user 3) 11, .arr (.int .u8) 512, .arr (.bool) 512, .val (.list (.int .u8)), .val (.int .i64), .nilp]] [.val (.int .i64)] n [true, true, true, true] ⟨[(0, .ptr 0 0), (3, .ptr 1 0), (7, .cell ⟨.int .u64, s7⟩)], [.blk 50 [.arr (.user 3) 11 b0_0l, .arr (.int .u8) 512 b0_1l, .arr (.bool) 512 b0_2l, .cell ⟨.list (.int .u8), b0_3⟩, .cell ⟨.int .i64, b0_4⟩, .raw (.pointer none)], .blk 28 [.cell ⟨.int .u8, b1_0⟩, .cell ⟨.bool, b1_1⟩, .cell ⟨.int .i64, b1_2⟩, .cell ⟨.int .i64, b1_3⟩, .cell ⟨.bool, b1_4⟩, .cell ⟨.int .i64, b1_5⟩, .cell ⟨.int .i64, b1_6⟩, .cell ⟨.int .i64, b1_7⟩]]⟩
noncomputable def exec_machine_load_g1_L1 (n : Nat) (s10 : Int) (s41 : Int) (s42 : Int) (b0_0l : List Val) (b0_1l : List Int) (b0_2l : List Bool) (b0_3 : List Int) (b0_4 : Int) (b1_0 : Int) (b1_1 : Bool) (b1_2 : Int) (b1_3 : Int) (b1_4 : Bool) (b1_5 : Int) (b1_6 : Int) (b1_7 : Int) : Option (((List Val × List Int × List Bool × List Int × Int × Unit × Unit) × Unit) × (Int × Unit)) := cutG TT Try.prog exec_machine_load_g1_C exec_machine_load_g1_cuts Try.f22 (bodyOf Try.f22) ⟨[], [], [], [], []⟩ [.blk 50 [.arr (.user 3) 11, .arr (.int .u8) 512, .arr (.bool) 512, .val (.list (.int .u8)), .val (.int .i64), .nilp]] [.val (.int .i64)] n [false, true, false, true, true, true, true, true, true, false, true, false, true, true, true, true] ⟨[(0, .ptr 0 0), (3, .ptr 1 0), (10, .cell ⟨.int .i64, s10⟩), (41, .cell ⟨.int .i64, s41⟩), (42, .cell ⟨.int .i64, s42⟩)], [.blk 50 [.arr (.user 3) 11 b0_0l, .arr (.int .u8) 512 b0_1l, .arr (.bool) 512 b0_2l, .cell ⟨.list (.int .u8), b0_3⟩, .cell ⟨.int .i64, b0_4⟩, .raw (.pointer none)], .blk 28 [.cell ⟨.int .u8, b1_0⟩, .cell ⟨.bool, b1_1⟩, .cell ⟨.int .i64, b1_2⟩, .cell ⟨.int .i64, b1_3⟩, .cell ⟨.bool, b1_4⟩, .cell ⟨.int .i64, b1_5⟩, .cell ⟨.int .i64, b1_6⟩, .cell ⟨.int .i64, b1_7⟩]]⟩
theorem exec_machine_load_g1_eq (n : Nat) (x0 : List Val) (x1 : List Int) (x2 : List Bool) (x3 : List Int) (x4 : Int) (x5 : Ins) : exec_machine_load_g1 n x0 x1 x2 x3 x4 x5 =
  obind (exec_machine_asks_g1 BIG x0 x1 x2 x3 x4 ([x5.Src] : List Int)) fun y1 =>
  forkB (y1.2.1 != (0 : Int))
  (some (((x0, x1, x2, x3, x4, (), ()), ()), (y1.2.1, ())))
  (if 0 ≤ x5.Src ∧ x5.Src < ((11 : Nat) : Int) then (forkB (((x0.getD x5.Src.toNat dVal).kind) == (1 : Int))
   (some (((x0, x1, x2, x3, x4, (), ()), ()), ((111 : Int), ())))
   (forkB (((x0.getD x5.Src.toNat dVal).kind) == (2 : Int))
    (obind (aluWide BIG x5.Off) fun y2 =>
     obind (packetGet BIG x3 (IntKind.i64.wrap (IntKind.u64.wrap (((x0.getD x5.Src.toNat dVal).n) + y2))) x5.Size) fun y3 =>
     forkB (y3.2 != (0 : Int))
     (some (((x0, x1, x2, x3, x4, (), ()), ()), (y3.2, ())))
     (exec_machine_load_g1_J0 n y3.1 x0 x1 x2 x3 x4 x5.Op x5.Narrow x5.Dst x5.Src x5.UseImm x5.Off x5.Imm x5.Size))
    (obind (exec_frame BIG ((x0.getD x5.Src.toNat dVal).n) x5) fun y4 =>
     forkB (y4.2 != (0 : Int))
     (some (((x0, x1, x2, x3, x4, (), ()), ()), (y4.2, ())))
     (exec_machine_load_g1_L1 n y4.1 x5.Size (0 : Int) x0 x1 x2 x3 x4 x5.Op x5.Narrow x5.Dst x5.Src x5.UseImm x5.Off x5.Imm x5.Size)))) else none) := by kernel_rfl
theorem exec_machine_load_g1_J0_eq (n : Nat) (s7 : Int) (b0_0l : List Val) (b0_1l : List Int) (b0_2l : List Bool) (b0_3 : List Int) (b0_4 : Int) (b1_0 : Int) (b1_1 : Bool) (b1_2 : Int) (b1_3 : Int) (b1_4 : Bool) (b1_5 : Int) (b1_6 : Int) (b1_7 : Int) : exec_machine_load_g1_J0 (n + 1) s7 b0_0l b0_1l b0_2l b0_3 b0_4 b1_0 b1_1 b1_2 b1_3 b1_4 b1_5 b1_6 b1_7 =
  if 0 ≤ b1_2 ∧ b1_2 < ((11 : Nat) : Int) then (some (((b0_0l.set b1_2.toNat (⟨(1 : Int), s7⟩ : Val), b0_1l, b0_2l, b0_3, b0_4, (), ()), ()), ((0 : Int), ()))) else none := by kernel_rfl
theorem exec_machine_load_g1_L1_eq (n : Nat) (s10 : Int) (s41 : Int) (s42 : Int) (b0_0l : List Val) (b0_1l : List Int) (b0_2l : List Bool) (b0_3 : List Int) (b0_4 : Int) (b1_0 : Int) (b1_1 : Bool) (b1_2 : Int) (b1_3 : Int) (b1_4 : Bool) (b1_5 : Int) (b1_6 : Int) (b1_7 : Int) : exec_machine_load_g1_L1 (n + 1) s10 s41 s42 b0_0l b0_1l b0_2l b0_3 b0_4 b1_0 b1_1 b1_2 b1_3 b1_4 b1_5 b1_6 b1_7 =
  forkB (decide (s42 < s41))
  (if 0 ≤ IntKind.i64.wrap (s10 + s42) ∧ IntKind.i64.wrap (s10 + s42) < ((512 : Nat) : Int) then (forkB (!(b0_2l.getD ((IntKind.i64.wrap (s10 + s42)).toNat) false))
   (some (((b0_0l, b0_1l, b0_2l, b0_3, b0_4, (), ()), ()), ((110 : Int), ())))
   (exec_machine_load_g1_L1 n s10 s41 (IntKind.i64.wrap (s42 + (1 : Int))) b0_0l b0_1l b0_2l b0_3 b0_4 b1_0 b1_1 b1_2 b1_3 b1_4 b1_5 b1_6 b1_7)) else none)
  (obind (packetGet BIG (List.take 512 (List.drop 0 b0_1l)) s10 b1_7) fun y1 =>
   exec_machine_load_g1_J0 n y1.1 b0_0l b0_1l b0_2l b0_3 b0_4 b1_0 b1_1 b1_2 b1_3 b1_4 b1_5 b1_6 b1_7) := by kernel_rfl
noncomputable def exec_machine_load_g1_sp : GSpec TT := ⟨[.ptr 0 50 [.arr (.user 3) 11, .arr (.int .u8) 512, .arr (.bool) 512, .val (.list (.int .u8)), .val (.int .i64), .nilp], .val (.user 0)], [.blk 50 [.arr (.user 3) 11, .arr (.int .u8) 512, .arr (.bool) 512, .val (.list (.int .u8)), .val (.int .i64), .nilp]], [.val (.int .i64)], fun x => exec_machine_load_g1 BIG x.1.1 x.1.2.1 x.1.2.2.1 x.1.2.2.2.1 x.1.2.2.2.2.1 x.2.1⟩
theorem exec_machine_load_g1_ok : GOk TT Try.prog 22 exec_machine_load_g1_sp := gOk_of (C := exec_machine_load_g1_C) (cuts := exec_machine_load_g1_cuts) (by kernel_rfl) exec_machine_load_g1_env Try.func22 (show Try.f22.body = some (bodyOf Try.f22) by kernel_rfl) (by kernel_rfl) (by kernel_rfl) (by kernel_rfl) fun x y h => ⟨BIG, h⟩
noncomputable def exec_machine_second_g2_C : Ctx TT := ⟨tyOf, [(34, exec_machine_asks_g2_ksp.toCall (exec_machine_asks_g1_ksp.toCall (noCall TT))), (37, aluWide_sp.toCall)], 2, [(2, 1)], layOf⟩
theorem exec_machine_second_g2_env : EnvOk TT Try.prog exec_machine_second_g2_C.E := envG (kCall_ok exec_machine_asks_g2_kok exec_machine_asks_g2_keep (kCall_ok exec_machine_asks_g1_kok exec_machine_asks_g1_keep (noCall_ok 34))) (envG (fnCall_ok aluWide_ok) (envNil))
def exec_machine_second_g2_cuts : List (Pos × Cut) := []
noncomputable def exec_machine_second_g2 (n : Nat) (x0 : List Val) (x1 : List Int) (x2 : List Bool) (x3 : List Int) (x4 : Int) (x5 : Ins) (x6 : List Int) : Option (((List Val × List Int × List Bool × List Int × Int × Unit × Unit) × Unit × Unit) × (Val × Int × Unit)) := topG TT Try.prog exec_machine_second_g2_C exec_machine_second_g2_cuts Try.f33 (bodyOf Try.f33) ⟨[], [], [], [], []⟩ [.ptr 0 50 [.arr (.user 3) 11, .arr (.int .u8) 512, .arr (.bool) 512, .val (.list (.int .u8)), .val (.int .i64), .nilp], .val (.user 0), .row 3 (.int .i64)] [.blk 50 [.arr (.user 3) 11, .arr (.int .u8) 512, .arr (.bool) 512, .val (.list (.int .u8)), .val (.int .i64), .nilp], .gone] [.val (.user 3), .val (.int .i64)] n ((x0, x1, x2, x3, x4, (), ()), x5, x6, ())
theorem exec_machine_second_g2_eq (n : Nat) (x0 : List Val) (x1 : List Int) (x2 : List Bool) (x3 : List Int) (x4 : Int) (x5 : Ins) (x6 : List Int) : exec_machine_second_g2 n x0 x1 x2 x3 x4 x5 x6 =
  forkB (!x5.UseImm)
  (if 0 ≤ x5.Src ∧ x5.Src < ((11 : Nat) : Int) then (if (x6.length + 1) * 8 ≤ 140737488355328 then (obind (exec_machine_asks_g1 BIG x0 x1 x2 x3 x4 (x6 ++ ([x5.Src] : List Int))) fun y1 =>
   some (((x0, x1, x2, x3, x4, (), ()), (), ()), (x0.getD x5.Src.toNat dVal, y1.2.1, ()))) else none) else none)
  (obind (aluWide BIG x5.Imm) fun y2 =>
   obind (exec_machine_asks_g1 BIG x0 x1 x2 x3 x4 x6) fun y3 =>
   some (((x0, x1, x2, x3, x4, (), ()), (), ()), ((⟨(1 : Int), y2⟩ : Val), y3.2.1, ()))) := by kernel_rfl
noncomputable def exec_machine_second_g2_sp : GSpec TT := ⟨[.ptr 0 50 [.arr (.user 3) 11, .arr (.int .u8) 512, .arr (.bool) 512, .val (.list (.int .u8)), .val (.int .i64), .nilp], .val (.user 0), .row 3 (.int .i64)], [.blk 50 [.arr (.user 3) 11, .arr (.int .u8) 512, .arr (.bool) 512, .val (.list (.int .u8)), .val (.int .i64), .nilp], .gone], [.val (.user 3), .val (.int .i64)], fun x => exec_machine_second_g2 BIG x.1.1 x.1.2.1 x.1.2.2.1 x.1.2.2.2.1 x.1.2.2.2.2.1 x.2.1 x.2.2.1⟩
theorem exec_machine_second_g2_ok : GOk TT Try.prog 33 exec_machine_second_g2_sp := gOk_of (C := exec_machine_second_g2_C) (cuts := exec_machine_second_g2_cuts) (by kernel_rfl) exec_machine_second_g2_env Try.func33 (show Try.f33.body = some (bodyOf Try.f33) by kernel_rfl) (by kernel_rfl) (by kernel_rfl) (by kernel_rfl) fun x y h => ⟨BIG, h⟩
noncomputable def packet_check_g2_C : Ctx TT := ⟨tyOf, [(91, packet_sizes_g1_sp.toCall (noCall TT))], 1, [], layOf⟩
theorem packet_check_g2_env : EnvOk TT Try.prog packet_check_g2_C.E := envG (gCall_ok packet_sizes_g1_ok (noCall_ok 91)) (envNil)
def packet_check_g2_cuts : List (Pos × Cut) := [([true], ⟨[0, 1, 2], [], false, []⟩), ([false, true], ⟨[0, 1, 2, 19], [], false, []⟩)]
noncomputable def packet_check_g2 (n : Nat) (x0 : List Val) (x1 : List Int) (x2 : List Bool) (x3 : List Int) (x4 : Int) (x5 : Nat) (x6 : Nat) (x7 : Int) (x8 : Int) : Option (((List Val × List Int × List Bool × List Int × Int × Unit × Unit) × Unit) × ((Unit) ⊕ (Int × Unit))) := topP TT Try.prog packet_check_g2_C packet_check_g2_cuts Try.f48 (bodyOf Try.f48) ⟨[], [], [], [], []⟩ [.asn 50 [.arr (.user 3) 11, .arr (.int .u8) 512, .arr (.bool) 512, .val (.list (.int .u8)), .val (.int .i64), .nilp] 22 1 512, .val (.int .i64), .val (.int .i64)] [.blk 50 [.arr (.user 3) 11, .arr (.int .u8) 512, .arr (.bool) 512, .val (.list (.int .u8)), .val (.int .i64), .nilp]] [] (.ifc 30 (.val (.int .i64))) n (((x0, x1, x2, x3, x4, (), ()), x5, x6), x7, x8, ())
noncomputable def packet_check_g2_J1 (n : Nat) (s0o : Nat) (s0n : Nat) (s1 : Int) (s2 : Int) (s19 : Bool) (b0_0l : List Val) (b0_1l : List Int) (b0_2l : List Bool) (b0_3 : List Int) (b0_4 : Int) : Option (((List Val × List Int × List Bool × List Int × Int × Unit × Unit) × Unit) × ((Unit) ⊕ (Int × Unit))) := cutP TT Try.prog packet_check_g2_C packet_check_g2_cuts Try.f48 (bodyOf Try.f48) ⟨[], [], [], [], []⟩ [.blk 50 [.arr (.user 3) 11, .arr (.int .u8) 512, .arr (.bool) 512, .val (.list (.int .u8)), .val (.int .i64), .nilp]] [] (.ifc 30 (.val (.int .i64))) n [false, true] ⟨[(0, .asl 0 22 1 512 s0o s0n), (1, .cell ⟨.int .i64, s1⟩), (2, .cell ⟨.int .i64, s2⟩), (19, .cell ⟨.bool, s19⟩)], [.blk 50 [.arr (.user 3) 11 b0_0l, .arr (.int .u8) 512 b0_1l, .arr (.bool) 512 b0_2l, .cell ⟨.list (.int .u8), b0_3⟩, .cell ⟨.int .i64, b0_4⟩, .raw (.pointer none)]]⟩
noncomputable def packet_check_g2_J0 (n : Nat) (s0o : Nat) (s0n : Nat) (s1 : Int) (s2 : Int) (b0_0l : List Val) (b0_1l : List Int) (b0_2l : List Bool) (b0_3 : List Int) (b0_4 : Int) : Option (((List Val × List Int × List Bool × List Int × Int × Unit × Unit) × Unit) × ((Unit) ⊕ (Int × Unit))) := cutP TT Try.prog packet_check_g2_C packet_check_g2_cuts Try.f48 (bodyOf Try.f48) ⟨[], [], [], [], []⟩ [.blk 50 [.arr (.user 3) 11, .arr (.int .u8) 512, .arr (.bool) 512, .val (.list (.int .u8)), .val (.int .i64), .nilp]] [] (.ifc 30 (.val (.int .i64))) n [true] ⟨[(0, .asl 0 22 1 512 s0o s0n), (1, .cell ⟨.int .i64, s1⟩), (2, .cell ⟨.int .i64, s2⟩)], [.blk 50 [.arr (.user 3) 11 b0_0l, .arr (.int .u8) 512 b0_1l, .arr (.bool) 512 b0_2l, .cell ⟨.list (.int .u8), b0_3⟩, .cell ⟨.int .i64, b0_4⟩, .raw (.pointer none)]]⟩
theorem packet_check_g2_eq (n : Nat) (x0 : List Val) (x1 : List Int) (x2 : List Bool) (x3 : List Int) (x4 : Int) (x5 : Nat) (x6 : Nat) (x7 : Int) (x8 : Int) : packet_check_g2 n x0 x1 x2 x3 x4 x5 x6 x7 x8 =
  obind (packet_sizes_g1 BIG ) fun y1 =>
  forkB (decide (x8 < (0 : Int)))
  (packet_check_g2_J1 n x5 x6 x7 x8 true x0 x1 x2 x3 x4)
  (forkB (decide (x8 ≥ (9 : Int)))
   (packet_check_g2_J1 n x5 x6 x7 x8 true x0 x1 x2 x3 x4)
   (if 0 ≤ x8 ∧ x8 < ((9 : Nat) : Int) then (packet_check_g2_J1 n x5 x6 x7 x8 (!(y1.2.1.getD x8.toNat false)) x0 x1 x2 x3 x4) else none)) := by kernel_rfl
theorem packet_check_g2_J1_eq (n : Nat) (s0o : Nat) (s0n : Nat) (s1 : Int) (s2 : Int) (s19 : Bool) (b0_0l : List Val) (b0_1l : List Int) (b0_2l : List Bool) (b0_3 : List Int) (b0_4 : Int) : packet_check_g2_J1 (n + 1) s0o s0n s1 s2 s19 b0_0l b0_1l b0_2l b0_3 b0_4 =
  forkB s19
  (some (((b0_0l, b0_1l, b0_2l, b0_3, b0_4, (), ()), ()), .inr ((2 : Int), ())))
  (packet_check_g2_J0 n s0o s0n s1 s2 b0_0l b0_1l b0_2l b0_3 b0_4) := by kernel_rfl
theorem packet_check_g2_J0_eq (n : Nat) (s0o : Nat) (s0n : Nat) (s1 : Int) (s2 : Int) (b0_0l : List Val) (b0_1l : List Int) (b0_2l : List Bool) (b0_3 : List Int) (b0_4 : Int) : packet_check_g2_J0 (n + 1) s0o s0n s1 s2 b0_0l b0_1l b0_2l b0_3 b0_4 =
  forkB (decide (s1 < (0 : Int)))
  (some (((b0_0l, b0_1l, b0_2l, b0_3, b0_4, (), ()), ()), .inr ((112 : Int), ())))
  (forkB (decide (s1 > (IntKind.i64.wrap (((s0n : Nat) : Int) - s2))))
   (some (((b0_0l, b0_1l, b0_2l, b0_3, b0_4, (), ()), ()), .inr ((112 : Int), ())))
   (some (((b0_0l, b0_1l, b0_2l, b0_3, b0_4, (), ()), ()), .inl ()))) := by kernel_rfl
noncomputable def packet_check_g2_sp : PSpec TT := ⟨[.asn 50 [.arr (.user 3) 11, .arr (.int .u8) 512, .arr (.bool) 512, .val (.list (.int .u8)), .val (.int .i64), .nilp] 22 1 512, .val (.int .i64), .val (.int .i64)], [.blk 50 [.arr (.user 3) 11, .arr (.int .u8) 512, .arr (.bool) 512, .val (.list (.int .u8)), .val (.int .i64), .nilp]], [], .ifc 30 (.val (.int .i64)), fun x => packet_check_g2 BIG x.1.1.1 x.1.1.2.1 x.1.1.2.2.1 x.1.1.2.2.2.1 x.1.1.2.2.2.2.1 x.1.2.1 x.1.2.2 x.2.1 x.2.2.1⟩
theorem packet_check_g2_ok : POk TT Try.prog 48 packet_check_g2_sp := pOk_of (C := packet_check_g2_C) (cuts := packet_check_g2_cuts) (by kernel_rfl) packet_check_g2_env Try.func48 (show Try.f48.body = some (bodyOf Try.f48) by kernel_rfl) (by kernel_rfl) (by kernel_rfl) (by kernel_rfl) fun x y h => ⟨BIG, h⟩
noncomputable def packetSet_1_g1_C : Ctx TT := ⟨tyOf, [(48, packet_check_g2_sp.toCall (packet_check_g1_sp.toCall (noCall TT))), (49, packet_places_g1_sp.toCall (noCall TT))], 5, [(4, 1)], layOf⟩
theorem packetSet_1_g1_env : EnvOk TT Try.prog packetSet_1_g1_C.E := envG (pCall_ok packet_check_g2_ok (pCall_ok packet_check_g1_ok (noCall_ok 48))) (envG (gCall_ok packet_places_g1_ok (noCall_ok 49)) (envNil))
noncomputable def packetSet_1_g1_RF : RfP TT := ⟨2, 92, (itPl 3 2), [12, 0, 3]⟩
noncomputable def packetSet_1_g1 (x0 : List Val) (x1 : List Int) (x2 : List Bool) (x3 : List Int) (x4 : Int) (x5 : Nat) (x6 : Nat) (x7 : Int) (x8 : Int) (x9 : Int) : Option ((((Nat × Nat) × Unit) × (List Val × List Int × List Bool × List Int × Int × Unit × Unit) × (Int × Unit) × (Int × Unit) × (Int × Unit) × Unit) × ((Unit) ⊕ (Int × Unit))) := topR TT Try.prog packetSet_1_g1_C Try.f50 (bodyOf Try.f50) ⟨[], [], [], [], []⟩ [.ptr 0 23 [.asn 50 [.arr (.user 3) 11, .arr (.int .u8) 512, .arr (.bool) 512, .val (.list (.int .u8)), .val (.int .i64), .nilp] 22 1 512], .ptr 0 2 [.val (.int .i64)], .ptr 0 3 [.val (.int .i64)], .ptr 0 31 [.val (.int .u64)]] [.blk 23 [.asp 1 22 1 512], .blk 50 [.arr (.user 3) 11, .arr (.int .u8) 512, .arr (.bool) 512, .val (.list (.int .u8)), .val (.int .i64), .nilp], .blk 2 [.val (.int .i64)], .blk 3 [.val (.int .i64)], .blk 31 [.val (.int .u64)]] [] (.ifc 30 (.val (.int .i64))) packetSet_1_g1_RF ((((x0, x1, x2, x3, x4, (), ()), x5, x6), ()), (x7, ()), (x8, ()), (x9, ()), ())
noncomputable def packetSet_1_g1_R0 (m k : Nat) (b0_0o : Nat) (b0_0n : Nat) (b1_0l : List Val) (b1_1l : List Int) (b1_2l : List Bool) (b1_3 : List Int) (b1_4 : Int) (b2_0 : Int) (b3_0 : Int) (b4_0 : Int) (b5_0 : Int) (b6_0 : Int) : Option ((((Nat × Nat) × Unit) × (List Val × List Int × List Bool × List Int × Int × Unit × Unit) × (Int × Unit) × (Int × Unit) × (Int × Unit) × Unit) × ((Unit) ⊕ (Int × Unit))) := roundsC TT Try.prog packetSet_1_g1_C Try.f50 (bodyOf Try.f50) ⟨[], [], [], [], []⟩ [.blk 23 [.asp 1 22 1 512], .blk 50 [.arr (.user 3) 11, .arr (.int .u8) 512, .arr (.bool) 512, .val (.list (.int .u8)), .val (.int .i64), .nilp], .blk 2 [.val (.int .i64)], .blk 3 [.val (.int .i64)], .blk 31 [.val (.int .u64)]] [] (.ifc 30 (.val (.int .i64))) packetSet_1_g1_RF [.ptr 5 0, .ptr 6 0] m k (⟨[(12, .fn (.func 92) [] [.ptr 5 0, .ptr 6 0]), (0, .ptr 0 0), (3, .ptr 4 0)], [.blk 23 [.asl 1 22 1 512 b0_0o b0_0n], .blk 50 [.arr (.user 3) 11 b1_0l, .arr (.int .u8) 512 b1_1l, .arr (.bool) 512 b1_2l, .cell ⟨.list (.int .u8), b1_3⟩, .cell ⟨.int .i64, b1_4⟩, .raw (.pointer none)], .blk 2 [.cell ⟨.int .i64, b2_0⟩], .blk 3 [.cell ⟨.int .i64, b3_0⟩], .blk 31 [.cell ⟨.int .u64, b4_0⟩], .blk 3 [.cell ⟨.int .i64, b5_0⟩], .blk 2 [.cell ⟨.int .i64, b6_0⟩]]⟩ : St TT)
theorem packetSet_1_g1_R0_zero (k : Nat) (b0_0o : Nat) (b0_0n : Nat) (b1_0l : List Val) (b1_1l : List Int) (b1_2l : List Bool) (b1_3 : List Int) (b1_4 : Int) (b2_0 : Int) (b3_0 : Int) (b4_0 : Int) (b5_0 : Int) (b6_0 : Int) : packetSet_1_g1_R0 0 k b0_0o b0_0n b1_0l b1_1l b1_2l b1_3 b1_4 b2_0 b3_0 b4_0 b5_0 b6_0 =
  some ((((b0_0o, b0_0n), ()), (b1_0l, b1_1l, b1_2l, b1_3, b1_4, (), ()), (b2_0, ()), (b3_0, ()), (b4_0, ()), ()), .inl ()) := by kernel_rfl
theorem packetSet_1_g1_R0_succ (m k : Nat) (b0_0o : Nat) (b0_0n : Nat) (b1_0l : List Val) (b1_1l : List Int) (b1_2l : List Bool) (b1_3 : List Int) (b1_4 : Int) (b2_0 : Int) (b3_0 : Int) (b4_0 : Int) (b5_0 : Int) (b6_0 : Int) : packetSet_1_g1_R0 (m + 1) k b0_0o b0_0n b1_0l b1_1l b1_2l b1_3 b1_4 b2_0 b3_0 b4_0 b5_0 b6_0 =
  if IntKind.i64.wrap (8 * IntKind.i64.wrap (IntKind.i64.wrap (b5_0 - 1) - (k : Int))) < 0 then none else (if 0 ≤ IntKind.i64.wrap (b6_0 + (k : Int)) ∧ IntKind.i64.wrap (b6_0 + (k : Int)) < ((b0_0n : Nat) : Int) then (packetSet_1_g1_R0 m (k + 1) b0_0o b0_0n b1_0l (b1_1l.set (b0_0o + ((IntKind.i64.wrap (b6_0 + (k : Int))).toNat)) (IntKind.u8.wrap (sShr .u64 b4_0 (IntKind.i64.wrap (8 * IntKind.i64.wrap (IntKind.i64.wrap (b5_0 - 1) - (k : Int))))))) b1_2l b1_3 b1_4 b2_0 b3_0 b4_0 b5_0 b6_0) else none) := by kernel_rfl
theorem packetSet_1_g1_eq (x0 : List Val) (x1 : List Int) (x2 : List Bool) (x3 : List Int) (x4 : Int) (x5 : Nat) (x6 : Nat) (x7 : Int) (x8 : Int) (x9 : Int) : packetSet_1_g1 x0 x1 x2 x3 x4 x5 x6 x7 x8 x9 =
  obind (packet_check_g2 BIG x0 x1 x2 x3 x4 x5 x6 x7 x8) fun y1 => match y1.2 with
  | .inl z1 => (obind (packet_places_g1 BIG x7 x8) fun y2 =>
   match forkB (decide (y2.2.1.2.1.1 ≤ 8)) (some y2.2.1.2.1.1.toNat) none with
   | some N => packetSet_1_g1_R0 N 0 x5 x6 y1.1.1.1 y1.1.1.2.1 y1.1.1.2.2.1 y1.1.1.2.2.2.1 y1.1.1.2.2.2.2.1 x7 x8 x9 y2.2.1.2.1.1 y2.2.1.2.2.1.1
   | none => none)
  | .inr e1 => (some ((((x5, x6), ()), (y1.1.1.1, y1.1.1.2.1, y1.1.1.2.2.1, y1.1.1.2.2.2.1, y1.1.1.2.2.2.2.1, (), ()), (x7, ()), (x8, ()), (x9, ()), ()), .inr (e1.1, ()))) := by kernel_rfl
noncomputable def packetSet_1_g1_sp : PSpec TT := ⟨[.ptr 0 23 [.asn 50 [.arr (.user 3) 11, .arr (.int .u8) 512, .arr (.bool) 512, .val (.list (.int .u8)), .val (.int .i64), .nilp] 22 1 512], .ptr 0 2 [.val (.int .i64)], .ptr 0 3 [.val (.int .i64)], .ptr 0 31 [.val (.int .u64)]], [.blk 23 [.asp 1 22 1 512], .blk 50 [.arr (.user 3) 11, .arr (.int .u8) 512, .arr (.bool) 512, .val (.list (.int .u8)), .val (.int .i64), .nilp], .blk 2 [.val (.int .i64)], .blk 3 [.val (.int .i64)], .blk 31 [.val (.int .u64)]], [], .ifc 30 (.val (.int .i64)), fun x => packetSet_1_g1 x.1.1.1.1 x.1.1.1.2.1 x.1.1.1.2.2.1 x.1.1.1.2.2.2.1 x.1.1.1.2.2.2.2.1 x.1.1.2.1 x.1.1.2.2 x.2.1.1 x.2.2.1.1 x.2.2.2.1.1⟩
theorem packetSet_1_g1_ok : POk TT Try.prog 50 packetSet_1_g1_sp := pOkR_of (C := packetSet_1_g1_C) (D := packetSet_1_g1_RF) (by kernel_rfl) packetSet_1_g1_env Try.func50 (show Try.f50.body = some (bodyOf Try.f50) by kernel_rfl) (by kernel_rfl) (by kernel_rfl) (by kernel_rfl) places_it fun x y h => h
noncomputable def packet_caught_g2_C : Ctx TT := ⟨tyOf, [(50, packetSet_1_g1_sp.toCall (noCall TT))], 5, [], layOf⟩
theorem packet_caught_g2_env : EnvOk TT Try.prog packet_caught_g2_C.E := envG (pCall_ok packetSet_1_g1_ok (noCall_ok 50)) (envNil)
def packet_caught_g2_cuts : List (Pos × Cut) := []
noncomputable def packet_caught_g2_D : DefP TT := ⟨1, 3, [3, 0, 2], 6, 90, [(5, 0)], packet_caught_1_d1_dsp, packet_caught_1_d2_dsp⟩
noncomputable def packet_caught_g2 (n : Nat) (x0 : List Val) (x1 : List Int) (x2 : List Bool) (x3 : List Int) (x4 : Int) (x5 : Nat) (x6 : Nat) (x7 : Int) (x8 : Int) (x9 : Int) : Option ((((Nat × Nat) × Unit) × (List Val × List Int × List Bool × List Int × Int × Unit × Unit) × (Int × Unit) × (Int × Unit) × (Int × Unit) × Unit) × (Int × Unit)) := topD Try.prog packet_caught_g2_C packet_caught_g2_cuts Try.f46 (bodyOf Try.f46) ⟨[], [], [], [], []⟩ [.fn 50 [] [.ptr 0 23 [.asn 50 [.arr (.user 3) 11, .arr (.int .u8) 512, .arr (.bool) 512, .val (.list (.int .u8)), .val (.int .i64), .nilp] 22 1 512], .ptr 0 2 [.val (.int .i64)], .ptr 0 3 [.val (.int .i64)], .ptr 0 31 [.val (.int .u64)]]] [.blk 23 [.asp 1 22 1 512], .blk 50 [.arr (.user 3) 11, .arr (.int .u8) 512, .arr (.bool) 512, .val (.list (.int .u8)), .val (.int .i64), .nilp], .blk 2 [.val (.int .i64)], .blk 3 [.val (.int .i64)], .blk 31 [.val (.int .u64)]] [.val (.int .i64)] packet_caught_g2_D n (((), ((((x0, x1, x2, x3, x4, (), ()), x5, x6), ()), (x7, ()), (x8, ()), (x9, ()), ())), ())
theorem packet_caught_g2_eq (n : Nat) (x0 : List Val) (x1 : List Int) (x2 : List Bool) (x3 : List Int) (x4 : Int) (x5 : Nat) (x6 : Nat) (x7 : Int) (x8 : Int) (x9 : Int) : packet_caught_g2 n x0 x1 x2 x3 x4 x5 x6 x7 x8 x9 =
  obind (packetSet_1_g1 x0 x1 x2 x3 x4 x5 x6 x7 x8 x9) fun y1 => match y1.2 with
  | .inl z1 => (obind (packet_caught_1_d1 (0 : Int)) fun y2 =>
   some ((((y1.1.1.1.1, y1.1.1.1.2), ()), (y1.1.2.1.1, y1.1.2.1.2.1, y1.1.2.1.2.2.1, y1.1.2.1.2.2.2.1, y1.1.2.1.2.2.2.2.1, (), ()), (y1.1.2.2.1.1, ()), (y1.1.2.2.2.1.1, ()), (y1.1.2.2.2.2.1.1, ()), ()), (y2.1.1, ())))
  | .inr e1 => (obind (packet_caught_1_d2 (0 : Int) e1.1) fun y3 =>
   some ((((y1.1.1.1.1, y1.1.1.1.2), ()), (y1.1.2.1.1, y1.1.2.1.2.1, y1.1.2.1.2.2.1, y1.1.2.1.2.2.2.1, y1.1.2.1.2.2.2.2.1, (), ()), (y1.1.2.2.1.1, ()), (y1.1.2.2.2.1.1, ()), (y1.1.2.2.2.2.1.1, ()), ()), (y3.1.1, ()))) := by kernel_rfl
noncomputable def packet_caught_g2_sp : GSpec TT := ⟨[.fn 50 [] [.ptr 0 23 [.asn 50 [.arr (.user 3) 11, .arr (.int .u8) 512, .arr (.bool) 512, .val (.list (.int .u8)), .val (.int .i64), .nilp] 22 1 512], .ptr 0 2 [.val (.int .i64)], .ptr 0 3 [.val (.int .i64)], .ptr 0 31 [.val (.int .u64)]]], [.blk 23 [.asp 1 22 1 512], .blk 50 [.arr (.user 3) 11, .arr (.int .u8) 512, .arr (.bool) 512, .val (.list (.int .u8)), .val (.int .i64), .nilp], .blk 2 [.val (.int .i64)], .blk 3 [.val (.int .i64)], .blk 31 [.val (.int .u64)]], [.val (.int .i64)], fun x => packet_caught_g2 BIG x.1.2.1.1.1.1 x.1.2.1.1.1.2.1 x.1.2.1.1.1.2.2.1 x.1.2.1.1.1.2.2.2.1 x.1.2.1.1.1.2.2.2.2.1 x.1.2.1.1.2.1 x.1.2.1.1.2.2 x.1.2.2.1.1 x.1.2.2.2.1.1 x.1.2.2.2.2.1.1⟩
theorem packet_caught_g2_ok : GOk TT Try.prog 46 packet_caught_g2_sp := gOkD_of (C := packet_caught_g2_C) (cuts := packet_caught_g2_cuts) (D := packet_caught_g2_D) (by kernel_rfl) packet_caught_g2_env Try.func46 (show Try.f46.body = some (bodyOf Try.f46) by kernel_rfl) (by kernel_rfl) (by kernel_rfl) (by kernel_rfl) packet_caught_1_d1_dok packet_caught_1_d2_dok fun x y h => ⟨BIG, h⟩
noncomputable def packetSet_g1_C : Ctx TT := ⟨tyOf, [(46, packet_caught_g2_sp.toCall (packet_caught_g1_sp.toCall (noCall TT)))], 1, [], layOf⟩
theorem packetSet_g1_env : EnvOk TT Try.prog packetSet_g1_C.E := envG (gCall_ok packet_caught_g2_ok (gCall_ok packet_caught_g1_ok (noCall_ok 46))) (envNil)
def packetSet_g1_cuts : List (Pos × Cut) := []
noncomputable def packetSet_g1 (n : Nat) (x0 : List Val) (x1 : List Int) (x2 : List Bool) (x3 : List Int) (x4 : Int) (x5 : Nat) (x6 : Nat) (x7 : Int) (x8 : Int) (x9 : Int) : Option (((List Val × List Int × List Bool × List Int × Int × Unit × Unit) × Unit) × (Int × Unit)) := topG TT Try.prog packetSet_g1_C packetSet_g1_cuts Try.f39 (bodyOf Try.f39) ⟨[], [], [], [], []⟩ [.asn 50 [.arr (.user 3) 11, .arr (.int .u8) 512, .arr (.bool) 512, .val (.list (.int .u8)), .val (.int .i64), .nilp] 22 1 512, .val (.int .i64), .val (.int .i64), .val (.int .u64)] [.blk 50 [.arr (.user 3) 11, .arr (.int .u8) 512, .arr (.bool) 512, .val (.list (.int .u8)), .val (.int .i64), .nilp]] [.val (.int .i64)] n (((x0, x1, x2, x3, x4, (), ()), x5, x6), x7, x8, x9, ())
theorem packetSet_g1_eq (n : Nat) (x0 : List Val) (x1 : List Int) (x2 : List Bool) (x3 : List Int) (x4 : Int) (x5 : Nat) (x6 : Nat) (x7 : Int) (x8 : Int) (x9 : Int) : packetSet_g1 n x0 x1 x2 x3 x4 x5 x6 x7 x8 x9 =
  obind (packet_caught_g2 BIG x0 x1 x2 x3 x4 x5 x6 x7 x8 x9) fun y1 =>
  some (((y1.1.2.1.1, y1.1.2.1.2.1, y1.1.2.1.2.2.1, y1.1.2.1.2.2.2.1, y1.1.2.1.2.2.2.2.1, (), ()), ()), (y1.2.1, ())) := by kernel_rfl
noncomputable def packetSet_g1_sp : GSpec TT := ⟨[.asn 50 [.arr (.user 3) 11, .arr (.int .u8) 512, .arr (.bool) 512, .val (.list (.int .u8)), .val (.int .i64), .nilp] 22 1 512, .val (.int .i64), .val (.int .i64), .val (.int .u64)], [.blk 50 [.arr (.user 3) 11, .arr (.int .u8) 512, .arr (.bool) 512, .val (.list (.int .u8)), .val (.int .i64), .nilp]], [.val (.int .i64)], fun x => packetSet_g1 BIG x.1.1.1 x.1.1.2.1 x.1.1.2.2.1 x.1.1.2.2.2.1 x.1.1.2.2.2.2.1 x.1.2.1 x.1.2.2 x.2.1 x.2.2.1 x.2.2.2.1⟩
theorem packetSet_g1_ok : GOk TT Try.prog 39 packetSet_g1_sp := gOk_of (C := packetSet_g1_C) (cuts := packetSet_g1_cuts) (by kernel_rfl) packetSet_g1_env Try.func39 (show Try.f39.body = some (bodyOf Try.f39) by kernel_rfl) (by kernel_rfl) (by kernel_rfl) (by kernel_rfl) fun x y h => ⟨BIG, h⟩
noncomputable def exec_machine_put_g1_C : Ctx TT := ⟨tyOf, [(33, exec_machine_second_g2_sp.toCall (exec_machine_second_g1_sp.toCall (noCall TT))), (38, exec_frame_sp.toCall), (39, packetSet_g1_sp.toCall (noCall TT))], 1, [(2, 1), (17, 1)], layOf⟩
theorem exec_machine_put_g1_env : EnvOk TT Try.prog exec_machine_put_g1_C.E := envG (gCall_ok exec_machine_second_g2_ok (gCall_ok exec_machine_second_g1_ok (noCall_ok 33))) (envG (fnCall_ok exec_frame_ok) (envG (gCall_ok packetSet_g1_ok (noCall_ok 39)) (envNil)))
def exec_machine_put_g1_cuts : List (Pos × Cut) := [([true, true, true, true, false, false, true, true, true], ⟨[0, 3, 5, 7, 34], [], false, []⟩), ([false, true, false, true, true, true, true, true, true], ⟨[0, 3, 5, 8, 54, 55], [], false, []⟩)]
noncomputable def exec_machine_put_g1 (n : Nat) (x0 : List Val) (x1 : List Int) (x2 : List Bool) (x3 : List Int) (x4 : Int) (x5 : Ins) : Option (((List Val × List Int × List Bool × List Int × Int × Unit × Unit) × Unit) × (Int × Unit)) := topG TT Try.prog exec_machine_put_g1_C exec_machine_put_g1_cuts Try.f23 (bodyOf Try.f23) ⟨[], [], [], [], []⟩ [.ptr 0 50 [.arr (.user 3) 11, .arr (.int .u8) 512, .arr (.bool) 512, .val (.list (.int .u8)), .val (.int .i64), .nilp], .val (.user 0)] [.blk 50 [.arr (.user 3) 11, .arr (.int .u8) 512, .arr (.bool) 512, .val (.list (.int .u8)), .val (.int .i64), .nilp]] [.val (.int .i64)] n ((x0, x1, x2, x3, x4, (), ()), x5, ())
noncomputable def exec_machine_put_g1_J0 (n : Nat) (s34 : Bool) (b0_0l : List Val) (b0_1l : List Int) (b0_2l : List Bool) (b0_3 : List Int) (b0_4 : Int) (b1_0 : Int) (b1_1 : Bool) (b1_2 : Int) (b1_3 : Int) (b1_4 : Bool) (b1_5 : Int) (b1_6 : Int) (b1_7 : Int) (b2_0 : Int) (b2_1 : Int) (b3_0 : Int) (b3_1 : Int) : Option (((List Val × List Int × List Bool × List Int × Int × Unit × Unit) × Unit) × (Int × Unit)) := cutG TT Try.prog exec_machine_put_g1_C exec_machine_put_g1_cuts Try.f23 (bodyOf Try.f23) ⟨[], [], [], [], []⟩ [.blk 50 [.arr (.user 3) 11, .arr (.int .u8) 512, .arr (.bool) 512, .val (.list (.int .u8)), .val (.int .i64), .nilp]] [.val (.int .i64)] n [true, true, true, true, false, false, true, true, true] ⟨[(0, .ptr 0 0), (3, .ptr 1 0), (5, .ptr 2 0), (7, .ptr 3 0), (34, .cell ⟨.bool, s34⟩)], [.blk 50 [.arr (.user 3) 11 b0_0l, .arr (.int .u8) 512 b0_1l, .arr (.bool) 512 b0_2l, .cell ⟨.list (.int .u8), b0_3⟩, .cell ⟨.int .i64, b0_4⟩, .raw (.pointer none)], .blk 28 [.cell ⟨.int .u8, b1_0⟩, .cell ⟨.bool, b1_1⟩, .cell ⟨.int .i64, b1_2⟩, .cell ⟨.int .i64, b1_3⟩, .cell ⟨.bool, b1_4⟩, .cell ⟨.int .i64, b1_5⟩, .cell ⟨.int .i64, b1_6⟩, .cell ⟨.int .i64, b1_7⟩], .blk 44 [.cell ⟨.int .u8, b2_0⟩, .cell ⟨.int .u64, b2_1⟩], .blk 44 [.cell ⟨.int .u8, b3_0⟩, .cell ⟨.int .u64, b3_1⟩]]⟩
noncomputable def exec_machine_put_g1_L1 (n : Nat) (s8 : Int) (s54 : Int) (s55 : Int) (b0_0l : List Val) (b0_1l : List Int) (b0_2l : List Bool) (b0_3 : List Int) (b0_4 : Int) (b1_0 : Int) (b1_1 : Bool) (b1_2 : Int) (b1_3 : Int) (b1_4 : Bool) (b1_5 : Int) (b1_6 : Int) (b1_7 : Int) (b2_0 : Int) (b2_1 : Int) : Option (((List Val × List Int × List Bool × List Int × Int × Unit × Unit) × Unit) × (Int × Unit)) := cutG TT Try.prog exec_machine_put_g1_C exec_machine_put_g1_cuts Try.f23 (bodyOf Try.f23) ⟨[], [], [], [], []⟩ [.blk 50 [.arr (.user 3) 11, .arr (.int .u8) 512, .arr (.bool) 512, .val (.list (.int .u8)), .val (.int .i64), .nilp]] [.val (.int .i64)] n [false, true, false, true, true, true, true, true, true] ⟨[(0, .ptr 0 0), (3, .ptr 1 0), (5, .ptr 2 0), (8, .cell ⟨.int .i64, s8⟩), (54, .cell ⟨.int .i64, s54⟩), (55, .cell ⟨.int .i64, s55⟩)], [.blk 50 [.arr (.user 3) 11 b0_0l, .arr (.int .u8) 512 b0_1l, .arr (.bool) 512 b0_2l, .cell ⟨.list (.int .u8), b0_3⟩, .cell ⟨.int .i64, b0_4⟩, .raw (.pointer none)], .blk 28 [.cell ⟨.int .u8, b1_0⟩, .cell ⟨.bool, b1_1⟩, .cell ⟨.int .i64, b1_2⟩, .cell ⟨.int .i64, b1_3⟩, .cell ⟨.bool, b1_4⟩, .cell ⟨.int .i64, b1_5⟩, .cell ⟨.int .i64, b1_6⟩, .cell ⟨.int .i64, b1_7⟩], .blk 44 [.cell ⟨.int .u8, b2_0⟩, .cell ⟨.int .u64, b2_1⟩]]⟩
theorem exec_machine_put_g1_eq (n : Nat) (x0 : List Val) (x1 : List Int) (x2 : List Bool) (x3 : List Int) (x4 : Int) (x5 : Ins) : exec_machine_put_g1 n x0 x1 x2 x3 x4 x5 =
  obind (exec_machine_second_g2 BIG x0 x1 x2 x3 x4 x5 ([x5.Dst] : List Int)) fun y1 =>
  if 0 ≤ x5.Dst ∧ x5.Dst < ((11 : Nat) : Int) then (forkB (y1.2.2.1 != (0 : Int))
  (some (((y1.1.1.1, y1.1.1.2.1, y1.1.1.2.2.1, y1.1.1.2.2.2.1, y1.1.1.2.2.2.2.1, (), ()), ()), (y1.2.2.1, ())))
  (forkB (((y1.1.1.1.getD x5.Dst.toNat dVal).kind) == (2 : Int))
   (some (((y1.1.1.1, y1.1.1.2.1, y1.1.1.2.2.1, y1.1.1.2.2.2.1, y1.1.1.2.2.2.2.1, (), ()), ()), ((114 : Int), ())))
   (forkB (((y1.1.1.1.getD x5.Dst.toNat dVal).kind) == (1 : Int))
    (exec_machine_put_g1_J0 n true y1.1.1.1 y1.1.1.2.1 y1.1.1.2.2.1 y1.1.1.2.2.2.1 y1.1.1.2.2.2.2.1 x5.Op x5.Narrow x5.Dst x5.Src x5.UseImm x5.Off x5.Imm x5.Size y1.2.1.kind y1.2.1.n ((y1.1.1.1.getD x5.Dst.toNat dVal).kind) ((y1.1.1.1.getD x5.Dst.toNat dVal).n))
    (exec_machine_put_g1_J0 n (y1.2.1.kind != (1 : Int)) y1.1.1.1 y1.1.1.2.1 y1.1.1.2.2.1 y1.1.1.2.2.2.1 y1.1.1.2.2.2.2.1 x5.Op x5.Narrow x5.Dst x5.Src x5.UseImm x5.Off x5.Imm x5.Size y1.2.1.kind y1.2.1.n ((y1.1.1.1.getD x5.Dst.toNat dVal).kind) ((y1.1.1.1.getD x5.Dst.toNat dVal).n))))) else none := by kernel_rfl
theorem exec_machine_put_g1_J0_eq (n : Nat) (s34 : Bool) (b0_0l : List Val) (b0_1l : List Int) (b0_2l : List Bool) (b0_3 : List Int) (b0_4 : Int) (b1_0 : Int) (b1_1 : Bool) (b1_2 : Int) (b1_3 : Int) (b1_4 : Bool) (b1_5 : Int) (b1_6 : Int) (b1_7 : Int) (b2_0 : Int) (b2_1 : Int) (b3_0 : Int) (b3_1 : Int) : exec_machine_put_g1_J0 (n + 1) s34 b0_0l b0_1l b0_2l b0_3 b0_4 b1_0 b1_1 b1_2 b1_3 b1_4 b1_5 b1_6 b1_7 b2_0 b2_1 b3_0 b3_1 =
  forkB s34
  (some (((b0_0l, b0_1l, b0_2l, b0_3, b0_4, (), ()), ()), ((111 : Int), ())))
  (obind (exec_frame BIG b3_1 (⟨b1_0, b1_1, b1_2, b1_3, b1_4, b1_5, b1_6, b1_7⟩ : Ins)) fun y1 =>
   forkB (y1.2 != (0 : Int))
   (some (((b0_0l, b0_1l, b0_2l, b0_3, b0_4, (), ()), ()), (y1.2, ())))
   (exec_machine_put_g1_L1 n y1.1 b1_7 (0 : Int) b0_0l b0_1l b0_2l b0_3 b0_4 b1_0 b1_1 b1_2 b1_3 b1_4 b1_5 b1_6 b1_7 b2_0 b2_1)) := by kernel_rfl
theorem exec_machine_put_g1_L1_eq (n : Nat) (s8 : Int) (s54 : Int) (s55 : Int) (b0_0l : List Val) (b0_1l : List Int) (b0_2l : List Bool) (b0_3 : List Int) (b0_4 : Int) (b1_0 : Int) (b1_1 : Bool) (b1_2 : Int) (b1_3 : Int) (b1_4 : Bool) (b1_5 : Int) (b1_6 : Int) (b1_7 : Int) (b2_0 : Int) (b2_1 : Int) : exec_machine_put_g1_L1 (n + 1) s8 s54 s55 b0_0l b0_1l b0_2l b0_3 b0_4 b1_0 b1_1 b1_2 b1_3 b1_4 b1_5 b1_6 b1_7 b2_0 b2_1 =
  forkB (decide (s55 < s54))
  (if 0 ≤ IntKind.i64.wrap (s8 + s55) ∧ IntKind.i64.wrap (s8 + s55) < ((512 : Nat) : Int) then (exec_machine_put_g1_L1 n s8 s54 (IntKind.i64.wrap (s55 + (1 : Int))) b0_0l b0_1l (b0_2l.set ((IntKind.i64.wrap (s8 + s55)).toNat) true) b0_3 b0_4 b1_0 b1_1 b1_2 b1_3 b1_4 b1_5 b1_6 b1_7 b2_0 b2_1) else none)
  (obind (packetSet_g1 BIG b0_0l b0_1l b0_2l b0_3 b0_4 0 512 s8 b1_7 b2_1) fun y1 =>
   some (((y1.1.1.1, y1.1.1.2.1, y1.1.1.2.2.1, y1.1.1.2.2.2.1, y1.1.1.2.2.2.2.1, (), ()), ()), (y1.2.1, ()))) := by kernel_rfl
noncomputable def exec_machine_put_g1_sp : GSpec TT := ⟨[.ptr 0 50 [.arr (.user 3) 11, .arr (.int .u8) 512, .arr (.bool) 512, .val (.list (.int .u8)), .val (.int .i64), .nilp], .val (.user 0)], [.blk 50 [.arr (.user 3) 11, .arr (.int .u8) 512, .arr (.bool) 512, .val (.list (.int .u8)), .val (.int .i64), .nilp]], [.val (.int .i64)], fun x => exec_machine_put_g1 BIG x.1.1 x.1.2.1 x.1.2.2.1 x.1.2.2.2.1 x.1.2.2.2.2.1 x.2.1⟩
theorem exec_machine_put_g1_ok : GOk TT Try.prog 23 exec_machine_put_g1_sp := gOk_of (C := exec_machine_put_g1_C) (cuts := exec_machine_put_g1_cuts) (by kernel_rfl) exec_machine_put_g1_env Try.func23 (show Try.f23.body = some (bodyOf Try.f23) by kernel_rfl) (by kernel_rfl) (by kernel_rfl) (by kernel_rfl) fun x y h => ⟨BIG, h⟩
noncomputable def exec_machine_jump_g1_C : Ctx TT := ⟨tyOf, [], 1, [(1, 1)], layOf⟩
theorem exec_machine_jump_g1_env : EnvOk TT Try.prog exec_machine_jump_g1_C.E := envNil
def exec_machine_jump_g1_cuts : List (Pos × Cut) := []
noncomputable def exec_machine_jump_g1 (n : Nat) (x0 : List Val) (x1 : List Int) (x2 : List Bool) (x3 : List Int) (x4 : Int) (x5 : Ins) : Option (((List Val × List Int × List Bool × List Int × Int × Unit × Unit) × Unit) × (Int × Unit)) := topG TT Try.prog exec_machine_jump_g1_C exec_machine_jump_g1_cuts Try.f24 (bodyOf Try.f24) ⟨[], [], [], [], []⟩ [.ptr 0 50 [.arr (.user 3) 11, .arr (.int .u8) 512, .arr (.bool) 512, .val (.list (.int .u8)), .val (.int .i64), .nilp], .val (.user 0)] [.blk 50 [.arr (.user 3) 11, .arr (.int .u8) 512, .arr (.bool) 512, .val (.list (.int .u8)), .val (.int .i64), .nilp]] [.val (.int .i64)] n ((x0, x1, x2, x3, x4, (), ()), x5, ())
theorem exec_machine_jump_g1_eq (n : Nat) (x0 : List Val) (x1 : List Int) (x2 : List Bool) (x3 : List Int) (x4 : Int) (x5 : Ins) : exec_machine_jump_g1 n x0 x1 x2 x3 x4 x5 =
  some (((x0, x1, x2, x3, IntKind.i64.wrap (x4 + x5.Off), (), ()), ()), ((0 : Int), ())) := by kernel_rfl
noncomputable def exec_machine_jump_g1_sp : GSpec TT := ⟨[.ptr 0 50 [.arr (.user 3) 11, .arr (.int .u8) 512, .arr (.bool) 512, .val (.list (.int .u8)), .val (.int .i64), .nilp], .val (.user 0)], [.blk 50 [.arr (.user 3) 11, .arr (.int .u8) 512, .arr (.bool) 512, .val (.list (.int .u8)), .val (.int .i64), .nilp]], [.val (.int .i64)], fun x => exec_machine_jump_g1 BIG x.1.1 x.1.2.1 x.1.2.2.1 x.1.2.2.2.1 x.1.2.2.2.2.1 x.2.1⟩
theorem exec_machine_jump_g1_ok : GOk TT Try.prog 24 exec_machine_jump_g1_sp := gOk_of (C := exec_machine_jump_g1_C) (cuts := exec_machine_jump_g1_cuts) (by kernel_rfl) exec_machine_jump_g1_env Try.func24 (show Try.f24.body = some (bodyOf Try.f24) by kernel_rfl) (by kernel_rfl) (by kernel_rfl) (by kernel_rfl) fun x y h => ⟨BIG, h⟩
noncomputable def exec_machine_exit_g1a1_C : Ctx TT := ⟨tyOf, [(34, exec_machine_asks_g2_ksp.toCall (exec_machine_asks_g1_ksp.toCall (noCall TT)))], 1, [], layOf⟩
theorem exec_machine_exit_g1a1_env : EnvOk TT Try.prog exec_machine_exit_g1a1_C.E := envG (kCall_ok exec_machine_asks_g2_kok exec_machine_asks_g2_keep (kCall_ok exec_machine_asks_g1_kok exec_machine_asks_g1_keep (noCall_ok 34))) (envNil)
def exec_machine_exit_g1a1_cuts : List (Pos × Cut) := []
noncomputable def exec_machine_exit_g1a1 (n : Nat) (x0 : List Val) (x1 : List Int) (x2 : List Bool) (x3 : List Int) (x4 : Int) (x5 : Ins) : Option (((List Val × List Int × List Bool × List Int × Int × Unit × Unit) × Unit) × (Int × Unit)) := topG TT Try.prog exec_machine_exit_g1a1_C exec_machine_exit_g1a1_cuts Try.f25 (bodyOf Try.f25) ⟨[], [], [], [], []⟩ [.ptr 0 50 [.arr (.user 3) 11, .arr (.int .u8) 512, .arr (.bool) 512, .val (.list (.int .u8)), .val (.int .i64), .nilp], .val (.user 0)] [.blk 50 [.arr (.user 3) 11, .arr (.int .u8) 512, .arr (.bool) 512, .val (.list (.int .u8)), .val (.int .i64), .nilp]] [.val (.int .i64)] n ((x0, x1, x2, x3, x4, (), ()), x5, ())
theorem exec_machine_exit_g1a1_eq (n : Nat) (x0 : List Val) (x1 : List Int) (x2 : List Bool) (x3 : List Int) (x4 : Int) (x5 : Ins) : exec_machine_exit_g1a1 n x0 x1 x2 x3 x4 x5 =
  obind (exec_machine_asks_g1 BIG x0 x1 x2 x3 x4 ([(0 : Int)] : List Int)) fun y1 =>
  forkB (y1.2.1 != (0 : Int))
  (some (((x0, x1, x2, x3, x4, (), ()), ()), (y1.2.1, ())))
  (forkB (((x0.getD 0 dVal).kind) != (1 : Int))
   (some (((x0, x1, x2, x3, x4, (), ()), ()), ((111 : Int), ())))
   (none)) := by kernel_rfl
noncomputable def exec_machine_exit_g1a1_sp : GSpec TT := ⟨[.ptr 0 50 [.arr (.user 3) 11, .arr (.int .u8) 512, .arr (.bool) 512, .val (.list (.int .u8)), .val (.int .i64), .nilp], .val (.user 0)], [.blk 50 [.arr (.user 3) 11, .arr (.int .u8) 512, .arr (.bool) 512, .val (.list (.int .u8)), .val (.int .i64), .nilp]], [.val (.int .i64)], fun x => exec_machine_exit_g1a1 BIG x.1.1 x.1.2.1 x.1.2.2.1 x.1.2.2.2.1 x.1.2.2.2.2.1 x.2.1⟩
theorem exec_machine_exit_g1a1_ok : GOk TT Try.prog 25 exec_machine_exit_g1a1_sp := gOk_of (C := exec_machine_exit_g1a1_C) (cuts := exec_machine_exit_g1a1_cuts) (by kernel_rfl) exec_machine_exit_g1a1_env Try.func25 (show Try.f25.body = some (bodyOf Try.f25) by kernel_rfl) (by kernel_rfl) (by kernel_rfl) (by kernel_rfl) fun x y h => ⟨BIG, h⟩
noncomputable def exec_machine_exit_g1a2_C : Ctx TT := ⟨tyOf, [(34, exec_machine_asks_g2_ksp.toCall (exec_machine_asks_g1_ksp.toCall (noCall TT)))], 1, [], layOf⟩
theorem exec_machine_exit_g1a2_env : EnvOk TT Try.prog exec_machine_exit_g1a2_C.E := envG (kCall_ok exec_machine_asks_g2_kok exec_machine_asks_g2_keep (kCall_ok exec_machine_asks_g1_kok exec_machine_asks_g1_keep (noCall_ok 34))) (envNil)
def exec_machine_exit_g1a2_cuts : List (Pos × Cut) := []
noncomputable def exec_machine_exit_g1a2 (n : Nat) (x0 : List Val) (x1 : List Int) (x2 : List Bool) (x3 : List Int) (x4 : Int) (x5 : Ins) : Option (((List Val × List Int × List Bool × List Int × Int × Nat × Unit) × Unit) × (Int × Unit)) := topG TT Try.prog exec_machine_exit_g1a2_C exec_machine_exit_g1a2_cuts Try.f25 (bodyOf Try.f25) ⟨[], [], [], [], []⟩ [.ptr 0 50 [.arr (.user 3) 11, .arr (.int .u8) 512, .arr (.bool) 512, .val (.list (.int .u8)), .val (.int .i64), .nilp], .val (.user 0)] [.blk 50 [.arr (.user 3) 11, .arr (.int .u8) 512, .arr (.bool) 512, .val (.list (.int .u8)), .val (.int .i64), .ap 0 0 2 11 1]] [.val (.int .i64)] n ((x0, x1, x2, x3, x4, (), ()), x5, ())
theorem exec_machine_exit_g1a2_eq (n : Nat) (x0 : List Val) (x1 : List Int) (x2 : List Bool) (x3 : List Int) (x4 : Int) (x5 : Ins) : exec_machine_exit_g1a2 n x0 x1 x2 x3 x4 x5 =
  obind (exec_machine_asks_g1 BIG x0 x1 x2 x3 x4 ([(0 : Int)] : List Int)) fun y1 =>
  forkB (y1.2.1 != (0 : Int))
  (none)
  (forkB (((x0.getD 0 dVal).kind) != (1 : Int))
   (none)
   (some (((x0, x1, x2, x3, x4, 0, ()), ()), ((0 : Int), ())))) := by kernel_rfl
noncomputable def exec_machine_exit_g1a2_sp : GSpec TT := ⟨[.ptr 0 50 [.arr (.user 3) 11, .arr (.int .u8) 512, .arr (.bool) 512, .val (.list (.int .u8)), .val (.int .i64), .nilp], .val (.user 0)], [.blk 50 [.arr (.user 3) 11, .arr (.int .u8) 512, .arr (.bool) 512, .val (.list (.int .u8)), .val (.int .i64), .ap 0 0 2 11 1]], [.val (.int .i64)], fun x => exec_machine_exit_g1a2 BIG x.1.1 x.1.2.1 x.1.2.2.1 x.1.2.2.2.1 x.1.2.2.2.2.1 x.2.1⟩
theorem exec_machine_exit_g1a2_ok : GOk TT Try.prog 25 exec_machine_exit_g1a2_sp := gOk_of (C := exec_machine_exit_g1a2_C) (cuts := exec_machine_exit_g1a2_cuts) (by kernel_rfl) exec_machine_exit_g1a2_env Try.func25 (show Try.f25.body = some (bodyOf Try.f25) by kernel_rfl) (by kernel_rfl) (by kernel_rfl) (by kernel_rfl) fun x y h => ⟨BIG, h⟩
noncomputable def exec_machine_exit_g1_c0 (x0 : List Val) (x1 : List Int) (x2 : List Bool) (x3 : List Int) (x4 : Int) (x5 : Ins) : Bool := (match exec_machine_asks_g1 BIG x0 x1 x2 x3 x4 ([(0 : Int)] : List Int) with | some y1 => ((y1.2.1 != (0 : Int)) || (((x0.getD 0 dVal).kind) != (1 : Int))) | none => false)
noncomputable def exec_machine_reckon_g1_C : Ctx TT := ⟨tyOf, [(33, exec_machine_second_g2_sp.toCall (exec_machine_second_g1_sp.toCall (noCall TT))), (35, aluDo_sp.toCall)], 1, [], layOf⟩
theorem exec_machine_reckon_g1_env : EnvOk TT Try.prog exec_machine_reckon_g1_C.E := envG (gCall_ok exec_machine_second_g2_ok (gCall_ok exec_machine_second_g1_ok (noCall_ok 33))) (envG (fnCall_ok aluDo_ok) (envNil))
def exec_machine_reckon_g1_cuts : List (Pos × Cut) := [([true, true, true, true], ⟨[3, 5, 7, 8], [], false, []⟩), ([false, true, true, true, true, true], ⟨[3, 5, 7, 54], [], false, []⟩)]
noncomputable def exec_machine_reckon_g1 (n : Nat) (x0 : List Val) (x1 : List Int) (x2 : List Bool) (x3 : List Int) (x4 : Int) (x5 : Ins) : Option (((List Val × List Int × List Bool × List Int × Int × Unit × Unit) × Unit) × (Int × Unit)) := topG TT Try.prog exec_machine_reckon_g1_C exec_machine_reckon_g1_cuts Try.f26 (bodyOf Try.f26) ⟨[], [], [], [], []⟩ [.ptr 0 50 [.arr (.user 3) 11, .arr (.int .u8) 512, .arr (.bool) 512, .val (.list (.int .u8)), .val (.int .i64), .nilp], .val (.user 0)] [.blk 50 [.arr (.user 3) 11, .arr (.int .u8) 512, .arr (.bool) 512, .val (.list (.int .u8)), .val (.int .i64), .nilp]] [.val (.int .i64)] n ((x0, x1, x2, x3, x4, (), ()), x5, ())
noncomputable def exec_machine_reckon_g1_J0 (n : Nat) (s7k : Nat) (s8 : Bool) (b0_0l : List Val) (b0_1l : List Int) (b0_2l : List Bool) (b0_3 : List Int) (b0_4 : Int) (b1_0 : Int) (b1_1 : Bool) (b1_2 : Int) (b1_3 : Int) (b1_4 : Bool) (b1_5 : Int) (b1_6 : Int) (b1_7 : Int) (b2_0 : Int) (b2_1 : Int) : Option (((List Val × List Int × List Bool × List Int × Int × Unit × Unit) × Unit) × (Int × Unit)) := cutG TT Try.prog exec_machine_reckon_g1_C exec_machine_reckon_g1_cuts Try.f26 (bodyOf Try.f26) ⟨[], [], [], [], []⟩ [.blk 50 [.arr (.user 3) 11, .arr (.int .u8) 512, .arr (.bool) 512, .val (.list (.int .u8)), .val (.int .i64), .nilp]] [.val (.int .i64)] n [true, true, true, true] ⟨[(3, .ptr 1 0), (5, .ptr 2 0), (7, .aptr 0 0 2 11 s7k 0), (8, .cell ⟨.bool, s8⟩)], [.blk 50 [.arr (.user 3) 11 b0_0l, .arr (.int .u8) 512 b0_1l, .arr (.bool) 512 b0_2l, .cell ⟨.list (.int .u8), b0_3⟩, .cell ⟨.int .i64, b0_4⟩, .raw (.pointer none)], .blk 28 [.cell ⟨.int .u8, b1_0⟩, .cell ⟨.bool, b1_1⟩, .cell ⟨.int .i64, b1_2⟩, .cell ⟨.int .i64, b1_3⟩, .cell ⟨.bool, b1_4⟩, .cell ⟨.int .i64, b1_5⟩, .cell ⟨.int .i64, b1_6⟩, .cell ⟨.int .i64, b1_7⟩], .blk 44 [.cell ⟨.int .u8, b2_0⟩, .cell ⟨.int .u64, b2_1⟩]]⟩
noncomputable def exec_machine_reckon_g1_J1 (n : Nat) (s7k : Nat) (s54 : Bool) (b0_0l : List Val) (b0_1l : List Int) (b0_2l : List Bool) (b0_3 : List Int) (b0_4 : Int) (b1_0 : Int) (b1_1 : Bool) (b1_2 : Int) (b1_3 : Int) (b1_4 : Bool) (b1_5 : Int) (b1_6 : Int) (b1_7 : Int) (b2_0 : Int) (b2_1 : Int) : Option (((List Val × List Int × List Bool × List Int × Int × Unit × Unit) × Unit) × (Int × Unit)) := cutG TT Try.prog exec_machine_reckon_g1_C exec_machine_reckon_g1_cuts Try.f26 (bodyOf Try.f26) ⟨[], [], [], [], []⟩ [.blk 50 [.arr (.user 3) 11, .arr (.int .u8) 512, .arr (.bool) 512, .val (.list (.int .u8)), .val (.int .i64), .nilp]] [.val (.int .i64)] n [false, true, true, true, true, true] ⟨[(3, .ptr 1 0), (5, .ptr 2 0), (7, .aptr 0 0 2 11 s7k 0), (54, .cell ⟨.bool, s54⟩)], [.blk 50 [.arr (.user 3) 11 b0_0l, .arr (.int .u8) 512 b0_1l, .arr (.bool) 512 b0_2l, .cell ⟨.list (.int .u8), b0_3⟩, .cell ⟨.int .i64, b0_4⟩, .raw (.pointer none)], .blk 28 [.cell ⟨.int .u8, b1_0⟩, .cell ⟨.bool, b1_1⟩, .cell ⟨.int .i64, b1_2⟩, .cell ⟨.int .i64, b1_3⟩, .cell ⟨.bool, b1_4⟩, .cell ⟨.int .i64, b1_5⟩, .cell ⟨.int .i64, b1_6⟩, .cell ⟨.int .i64, b1_7⟩], .blk 44 [.cell ⟨.int .u8, b2_0⟩, .cell ⟨.int .u64, b2_1⟩]]⟩
theorem exec_machine_reckon_g1_eq (n : Nat) (x0 : List Val) (x1 : List Int) (x2 : List Bool) (x3 : List Int) (x4 : Int) (x5 : Ins) : exec_machine_reckon_g1 n x0 x1 x2 x3 x4 x5 =
  obind (exec_machine_second_g2 BIG x0 x1 x2 x3 x4 x5 ([x5.Dst] : List Int)) fun y1 =>
  forkB (y1.2.2.1 != (0 : Int))
  (some (((y1.1.1.1, y1.1.1.2.1, y1.1.1.2.2.1, y1.1.1.2.2.2.1, y1.1.1.2.2.2.2.1, (), ()), ()), (y1.2.2.1, ())))
  (if 0 ≤ x5.Dst ∧ x5.Dst < ((11 : Nat) : Int) then (forkB (x5.Op == (1 : Int))
   (exec_machine_reckon_g1_J0 n x5.Dst.toNat (!x5.Narrow) y1.1.1.1 y1.1.1.2.1 y1.1.1.2.2.1 y1.1.1.2.2.2.1 y1.1.1.2.2.2.2.1 x5.Op x5.Narrow x5.Dst x5.Src x5.UseImm x5.Off x5.Imm x5.Size y1.2.1.kind y1.2.1.n)
   (forkB (x5.Op == (2 : Int))
    (exec_machine_reckon_g1_J0 n x5.Dst.toNat (!x5.Narrow) y1.1.1.1 y1.1.1.2.1 y1.1.1.2.2.1 y1.1.1.2.2.2.1 y1.1.1.2.2.2.2.1 x5.Op x5.Narrow x5.Dst x5.Src x5.UseImm x5.Off x5.Imm x5.Size y1.2.1.kind y1.2.1.n)
    (exec_machine_reckon_g1_J0 n x5.Dst.toNat false y1.1.1.1 y1.1.1.2.1 y1.1.1.2.2.1 y1.1.1.2.2.2.1 y1.1.1.2.2.2.2.1 x5.Op x5.Narrow x5.Dst x5.Src x5.UseImm x5.Off x5.Imm x5.Size y1.2.1.kind y1.2.1.n))) else none) := by kernel_rfl
theorem exec_machine_reckon_g1_J0_eq (n : Nat) (s7k : Nat) (s8 : Bool) (b0_0l : List Val) (b0_1l : List Int) (b0_2l : List Bool) (b0_3 : List Int) (b0_4 : Int) (b1_0 : Int) (b1_1 : Bool) (b1_2 : Int) (b1_3 : Int) (b1_4 : Bool) (b1_5 : Int) (b1_6 : Int) (b1_7 : Int) (b2_0 : Int) (b2_1 : Int) : exec_machine_reckon_g1_J0 (n + 1) s7k s8 b0_0l b0_1l b0_2l b0_3 b0_4 b1_0 b1_1 b1_2 b1_3 b1_4 b1_5 b1_6 b1_7 b2_0 b2_1 =
  forkB (b2_0 != (1 : Int))
  (exec_machine_reckon_g1_J1 n s7k true b0_0l b0_1l b0_2l b0_3 b0_4 b1_0 b1_1 b1_2 b1_3 b1_4 b1_5 b1_6 b1_7 b2_0 b2_1)
  (forkB (((b0_0l.getD s7k dVal).kind) != (1 : Int))
   (exec_machine_reckon_g1_J1 n s7k (!s8) b0_0l b0_1l b0_2l b0_3 b0_4 b1_0 b1_1 b1_2 b1_3 b1_4 b1_5 b1_6 b1_7 b2_0 b2_1)
   (exec_machine_reckon_g1_J1 n s7k false b0_0l b0_1l b0_2l b0_3 b0_4 b1_0 b1_1 b1_2 b1_3 b1_4 b1_5 b1_6 b1_7 b2_0 b2_1)) := by kernel_rfl
theorem exec_machine_reckon_g1_J1_eq (n : Nat) (s7k : Nat) (s54 : Bool) (b0_0l : List Val) (b0_1l : List Int) (b0_2l : List Bool) (b0_3 : List Int) (b0_4 : Int) (b1_0 : Int) (b1_1 : Bool) (b1_2 : Int) (b1_3 : Int) (b1_4 : Bool) (b1_5 : Int) (b1_6 : Int) (b1_7 : Int) (b2_0 : Int) (b2_1 : Int) : exec_machine_reckon_g1_J1 (n + 1) s7k s54 b0_0l b0_1l b0_2l b0_3 b0_4 b1_0 b1_1 b1_2 b1_3 b1_4 b1_5 b1_6 b1_7 b2_0 b2_1 =
  forkB s54
  (some (((b0_0l, b0_1l, b0_2l, b0_3, b0_4, (), ()), ()), ((114 : Int), ())))
  (obind (aluDo BIG b1_0 b1_1 ((b0_0l.getD s7k dVal).n) b2_1) fun y1 =>
   forkB (y1.2 == (0 : Int))
   (some (((b0_0l.set s7k (⟨(b0_0l.getD s7k dVal).kind, y1.1⟩ : Val), b0_1l, b0_2l, b0_3, b0_4, (), ()), ()), (y1.2, ())))
   (some (((b0_0l, b0_1l, b0_2l, b0_3, b0_4, (), ()), ()), (y1.2, ())))) := by kernel_rfl
noncomputable def exec_machine_reckon_g1_sp : GSpec TT := ⟨[.ptr 0 50 [.arr (.user 3) 11, .arr (.int .u8) 512, .arr (.bool) 512, .val (.list (.int .u8)), .val (.int .i64), .nilp], .val (.user 0)], [.blk 50 [.arr (.user 3) 11, .arr (.int .u8) 512, .arr (.bool) 512, .val (.list (.int .u8)), .val (.int .i64), .nilp]], [.val (.int .i64)], fun x => exec_machine_reckon_g1 BIG x.1.1 x.1.2.1 x.1.2.2.1 x.1.2.2.2.1 x.1.2.2.2.2.1 x.2.1⟩
theorem exec_machine_reckon_g1_ok : GOk TT Try.prog 26 exec_machine_reckon_g1_sp := gOk_of (C := exec_machine_reckon_g1_C) (cuts := exec_machine_reckon_g1_cuts) (by kernel_rfl) exec_machine_reckon_g1_env Try.func26 (show Try.f26.body = some (bodyOf Try.f26) by kernel_rfl) (by kernel_rfl) (by kernel_rfl) (by kernel_rfl) fun x y h => ⟨BIG, h⟩
noncomputable def exec_machine_branch_g1_C : Ctx TT := ⟨tyOf, [(33, exec_machine_second_g2_sp.toCall (exec_machine_second_g1_sp.toCall (noCall TT))), (40, aluIs_sp.toCall)], 1, [(2, 1), (9, 1)], layOf⟩
theorem exec_machine_branch_g1_env : EnvOk TT Try.prog exec_machine_branch_g1_C.E := envG (gCall_ok exec_machine_second_g2_ok (gCall_ok exec_machine_second_g1_ok (noCall_ok 33))) (envG (fnCall_ok aluIs_ok) (envNil))
def exec_machine_branch_g1_cuts : List (Pos × Cut) := [([true, true, false, false, true, true, true], ⟨[0, 3, 5, 7, 30], [], false, []⟩)]
noncomputable def exec_machine_branch_g1 (n : Nat) (x0 : List Val) (x1 : List Int) (x2 : List Bool) (x3 : List Int) (x4 : Int) (x5 : Ins) : Option (((List Val × List Int × List Bool × List Int × Int × Unit × Unit) × Unit) × (Int × Unit)) := topG TT Try.prog exec_machine_branch_g1_C exec_machine_branch_g1_cuts Try.f27 (bodyOf Try.f27) ⟨[], [], [], [], []⟩ [.ptr 0 50 [.arr (.user 3) 11, .arr (.int .u8) 512, .arr (.bool) 512, .val (.list (.int .u8)), .val (.int .i64), .nilp], .val (.user 0)] [.blk 50 [.arr (.user 3) 11, .arr (.int .u8) 512, .arr (.bool) 512, .val (.list (.int .u8)), .val (.int .i64), .nilp]] [.val (.int .i64)] n ((x0, x1, x2, x3, x4, (), ()), x5, ())
noncomputable def exec_machine_branch_g1_J0 (n : Nat) (s30 : Bool) (b0_0l : List Val) (b0_1l : List Int) (b0_2l : List Bool) (b0_3 : List Int) (b0_4 : Int) (b1_0 : Int) (b1_1 : Bool) (b1_2 : Int) (b1_3 : Int) (b1_4 : Bool) (b1_5 : Int) (b1_6 : Int) (b1_7 : Int) (b2_0 : Int) (b2_1 : Int) (b3_0 : Int) (b3_1 : Int) : Option (((List Val × List Int × List Bool × List Int × Int × Unit × Unit) × Unit) × (Int × Unit)) := cutG TT Try.prog exec_machine_branch_g1_C exec_machine_branch_g1_cuts Try.f27 (bodyOf Try.f27) ⟨[], [], [], [], []⟩ [.blk 50 [.arr (.user 3) 11, .arr (.int .u8) 512, .arr (.bool) 512, .val (.list (.int .u8)), .val (.int .i64), .nilp]] [.val (.int .i64)] n [true, true, false, false, true, true, true] ⟨[(0, .ptr 0 0), (3, .ptr 1 0), (5, .ptr 2 0), (7, .ptr 3 0), (30, .cell ⟨.bool, s30⟩)], [.blk 50 [.arr (.user 3) 11 b0_0l, .arr (.int .u8) 512 b0_1l, .arr (.bool) 512 b0_2l, .cell ⟨.list (.int .u8), b0_3⟩, .cell ⟨.int .i64, b0_4⟩, .raw (.pointer none)], .blk 28 [.cell ⟨.int .u8, b1_0⟩, .cell ⟨.bool, b1_1⟩, .cell ⟨.int .i64, b1_2⟩, .cell ⟨.int .i64, b1_3⟩, .cell ⟨.bool, b1_4⟩, .cell ⟨.int .i64, b1_5⟩, .cell ⟨.int .i64, b1_6⟩, .cell ⟨.int .i64, b1_7⟩], .blk 44 [.cell ⟨.int .u8, b2_0⟩, .cell ⟨.int .u64, b2_1⟩], .blk 44 [.cell ⟨.int .u8, b3_0⟩, .cell ⟨.int .u64, b3_1⟩]]⟩
theorem exec_machine_branch_g1_eq (n : Nat) (x0 : List Val) (x1 : List Int) (x2 : List Bool) (x3 : List Int) (x4 : Int) (x5 : Ins) : exec_machine_branch_g1 n x0 x1 x2 x3 x4 x5 =
  obind (exec_machine_second_g2 BIG x0 x1 x2 x3 x4 x5 ([x5.Dst] : List Int)) fun y1 =>
  if 0 ≤ x5.Dst ∧ x5.Dst < ((11 : Nat) : Int) then (forkB (y1.2.2.1 != (0 : Int))
  (some (((y1.1.1.1, y1.1.1.2.1, y1.1.1.2.2.1, y1.1.1.2.2.2.1, y1.1.1.2.2.2.2.1, (), ()), ()), (y1.2.2.1, ())))
  (forkB (((y1.1.1.1.getD x5.Dst.toNat dVal).kind) != (1 : Int))
   (exec_machine_branch_g1_J0 n true y1.1.1.1 y1.1.1.2.1 y1.1.1.2.2.1 y1.1.1.2.2.2.1 y1.1.1.2.2.2.2.1 x5.Op x5.Narrow x5.Dst x5.Src x5.UseImm x5.Off x5.Imm x5.Size y1.2.1.kind y1.2.1.n ((y1.1.1.1.getD x5.Dst.toNat dVal).kind) ((y1.1.1.1.getD x5.Dst.toNat dVal).n))
   (exec_machine_branch_g1_J0 n (y1.2.1.kind != (1 : Int)) y1.1.1.1 y1.1.1.2.1 y1.1.1.2.2.1 y1.1.1.2.2.2.1 y1.1.1.2.2.2.2.1 x5.Op x5.Narrow x5.Dst x5.Src x5.UseImm x5.Off x5.Imm x5.Size y1.2.1.kind y1.2.1.n ((y1.1.1.1.getD x5.Dst.toNat dVal).kind) ((y1.1.1.1.getD x5.Dst.toNat dVal).n)))) else none := by kernel_rfl
theorem exec_machine_branch_g1_J0_eq (n : Nat) (s30 : Bool) (b0_0l : List Val) (b0_1l : List Int) (b0_2l : List Bool) (b0_3 : List Int) (b0_4 : Int) (b1_0 : Int) (b1_1 : Bool) (b1_2 : Int) (b1_3 : Int) (b1_4 : Bool) (b1_5 : Int) (b1_6 : Int) (b1_7 : Int) (b2_0 : Int) (b2_1 : Int) (b3_0 : Int) (b3_1 : Int) : exec_machine_branch_g1_J0 (n + 1) s30 b0_0l b0_1l b0_2l b0_3 b0_4 b1_0 b1_1 b1_2 b1_3 b1_4 b1_5 b1_6 b1_7 b2_0 b2_1 b3_0 b3_1 =
  forkB s30
  (some (((b0_0l, b0_1l, b0_2l, b0_3, b0_4, (), ()), ()), ((111 : Int), ())))
  (obind (aluIs BIG b1_0 b1_1 b3_1 b2_1) fun y1 =>
   forkB y1.1
   (some (((b0_0l, b0_1l, b0_2l, b0_3, IntKind.i64.wrap (b0_4 + b1_5), (), ()), ()), ((0 : Int), ())))
   (some (((b0_0l, b0_1l, b0_2l, b0_3, b0_4, (), ()), ()), ((0 : Int), ())))) := by kernel_rfl
noncomputable def exec_machine_branch_g1_sp : GSpec TT := ⟨[.ptr 0 50 [.arr (.user 3) 11, .arr (.int .u8) 512, .arr (.bool) 512, .val (.list (.int .u8)), .val (.int .i64), .nilp], .val (.user 0)], [.blk 50 [.arr (.user 3) 11, .arr (.int .u8) 512, .arr (.bool) 512, .val (.list (.int .u8)), .val (.int .i64), .nilp]], [.val (.int .i64)], fun x => exec_machine_branch_g1 BIG x.1.1 x.1.2.1 x.1.2.2.1 x.1.2.2.2.1 x.1.2.2.2.2.1 x.2.1⟩
theorem exec_machine_branch_g1_ok : GOk TT Try.prog 27 exec_machine_branch_g1_sp := gOk_of (C := exec_machine_branch_g1_C) (cuts := exec_machine_branch_g1_cuts) (by kernel_rfl) exec_machine_branch_g1_env Try.func27 (show Try.f27.body = some (bodyOf Try.f27) by kernel_rfl) (by kernel_rfl) (by kernel_rfl) (by kernel_rfl) fun x y h => ⟨BIG, h⟩
noncomputable def execRun_C : Ctx TT := ⟨tyOf, [(9, shapeCheck_sp.toCall), (10, (CallSpec.forkS [.val (.int .u8)] (fun x => exec_does_g1_c0 x.1) (exec_does_g1a1_sp.toCall (noCall TT)) (CallSpec.forkS [.val (.int .u8)] (fun x => exec_does_g1_c1 x.1) (exec_does_g1a2_sp.toCall (noCall TT)) (CallSpec.forkS [.val (.int .u8)] (fun x => exec_does_g1_c2 x.1) (exec_does_g1a3_sp.toCall (noCall TT)) (CallSpec.forkS [.val (.int .u8)] (fun x => exec_does_g1_c3 x.1) (exec_does_g1a4_sp.toCall (noCall TT)) (CallSpec.forkS [.val (.int .u8)] (fun x => exec_does_g1_c4 x.1) (exec_does_g1a5_sp.toCall (noCall TT)) (CallSpec.forkS [.val (.int .u8)] (fun x => exec_does_g1_c5 x.1) (exec_does_g1a6_sp.toCall (noCall TT)) (CallSpec.forkS [.val (.int .u8)] (fun x => exec_does_g1_c6 x.1) (exec_does_g1a7_sp.toCall (noCall TT)) (exec_does_g1a8_sp.toCall (noCall TT)))))))))), (20, exec_machine_move_g1_sp.toCall (noCall TT)), (21, exec_machine_turn_g1_sp.toCall (noCall TT)), (22, exec_machine_load_g1_sp.toCall (noCall TT)), (23, exec_machine_put_g1_sp.toCall (noCall TT)), (24, exec_machine_jump_g1_sp.toCall (noCall TT)), (25, (CallSpec.forkS [.ptr 0 50 [.arr (.user 3) 11, .arr (.int .u8) 512, .arr (.bool) 512, .val (.list (.int .u8)), .val (.int .i64), .nilp], .val (.user 0)] (fun x => exec_machine_exit_g1_c0 x.1.1 x.1.2.1 x.1.2.2.1 x.1.2.2.2.1 x.1.2.2.2.2.1 x.2.1) (exec_machine_exit_g1a1_sp.toCall (noCall TT)) (exec_machine_exit_g1a2_sp.toCall (noCall TT)))), (26, exec_machine_reckon_g1_sp.toCall (noCall TT)), (27, exec_machine_branch_g1_sp.toCall (noCall TT))], 0, [(7, 1), (10, 1), (13, 1)], layOf⟩
theorem execRun_env : EnvOk TT Try.prog execRun_C.E := envG (fnCall_ok shapeCheck_ok) (envG (forkSCall_ok _ _ (gCall_ok exec_does_g1a1_ok (noCall_ok 10)) (forkSCall_ok _ _ (gCall_ok exec_does_g1a2_ok (noCall_ok 10)) (forkSCall_ok _ _ (gCall_ok exec_does_g1a3_ok (noCall_ok 10)) (forkSCall_ok _ _ (gCall_ok exec_does_g1a4_ok (noCall_ok 10)) (forkSCall_ok _ _ (gCall_ok exec_does_g1a5_ok (noCall_ok 10)) (forkSCall_ok _ _ (gCall_ok exec_does_g1a6_ok (noCall_ok 10)) (forkSCall_ok _ _ (gCall_ok exec_does_g1a7_ok (noCall_ok 10)) (gCall_ok exec_does_g1a8_ok (noCall_ok 10))))))))) (envG (gCall_ok exec_machine_move_g1_ok (noCall_ok 20)) (envG (gCall_ok exec_machine_turn_g1_ok (noCall_ok 21)) (envG (gCall_ok exec_machine_load_g1_ok (noCall_ok 22)) (envG (gCall_ok exec_machine_put_g1_ok (noCall_ok 23)) (envG (gCall_ok exec_machine_jump_g1_ok (noCall_ok 24)) (envG (forkSCall_ok _ _ (gCall_ok exec_machine_exit_g1a1_ok (noCall_ok 25)) (gCall_ok exec_machine_exit_g1a2_ok (noCall_ok 25))) (envG (gCall_ok exec_machine_reckon_g1_ok (noCall_ok 26)) (envG (gCall_ok exec_machine_branch_g1_ok (noCall_ok 27)) (envNil))))))))))
def execRun_cuts : List (Pos × Cut) := [([false, false, true, true, true, true, true, true], ⟨[0, 4, 6], [], false, []⟩)]
noncomputable def execRun (n : Nat) (x0 : List Ins) (x1 : List Int) : Option (Outcome) := topF TT Try.prog execRun_C execRun_cuts Try.f8 (bodyOf Try.f8) ⟨[], []⟩ [.val (.list (.user 0)), .val (.list (.int .u8))] [.val (.user 2)] n (x0, x1)
noncomputable def execRun_L0 (n : Nat) (s0 : List Ins) (b0_0 : Int) (b0_1 : Int) (b0_2 : Int) (b0_3 : Int) (b1_0l : List Val) (b1_1l : List Int) (b1_2l : List Bool) (b1_3 : List Int) (b1_4 : Int) : Option (Outcome) := cutF TT Try.prog execRun_C execRun_cuts Try.f8 (bodyOf Try.f8) ⟨[], []⟩ [.val (.list (.user 0)), .val (.list (.int .u8))] [.val (.user 2)] n [false, false, true, true, true, true, true, true] ⟨[(0, .cell ⟨.list (.user 0), s0⟩), (4, .ptr 0 0), (6, .ptr 1 0)], [.blk 33 [.cell ⟨.int .i64, b0_0⟩, .cell ⟨.int .i64, b0_1⟩, .cell ⟨.int .u64, b0_2⟩, .cell ⟨.int .i64, b0_3⟩], .blk 50 [.arr (.user 3) 11 b1_0l, .arr (.int .u8) 512 b1_1l, .arr (.bool) 512 b1_2l, .cell ⟨.list (.int .u8), b1_3⟩, .cell ⟨.int .i64, b1_4⟩, .raw (.pointer none)]]⟩
noncomputable def execRun_L0a (n : Nat) (s0 : List Ins) (b0_0 : Int) (b0_1 : Int) (b0_2 : Int) (b0_3 : Int) (b1_0l : List Val) (b1_1l : List Int) (b1_2l : List Bool) (b1_3 : List Int) (b1_4 : Int) (b1_5k : Nat) : Option (Outcome) := cutF TT Try.prog execRun_C execRun_cuts Try.f8 (bodyOf Try.f8) ⟨[], []⟩ [.val (.list (.user 0)), .val (.list (.int .u8))] [.val (.user 2)] n [false, false, true, true, true, true, true, true] ⟨[(0, .cell ⟨.list (.user 0), s0⟩), (4, .ptr 0 0), (6, .ptr 1 0)], [.blk 33 [.cell ⟨.int .i64, b0_0⟩, .cell ⟨.int .i64, b0_1⟩, .cell ⟨.int .u64, b0_2⟩, .cell ⟨.int .i64, b0_3⟩], .blk 50 [.arr (.user 3) 11 b1_0l, .arr (.int .u8) 512 b1_1l, .arr (.bool) 512 b1_2l, .cell ⟨.list (.int .u8), b1_3⟩, .cell ⟨.int .i64, b1_4⟩, .aptr 1 0 2 11 b1_5k 1]]⟩
theorem execRun_eq (n : Nat) (x0 : List Ins) (x1 : List Int) : execRun n x0 x1 =
  obind (shapeCheck BIG x0) fun y1 =>
  forkB (y1.Err != (0 : Int))
  (some (⟨y1.Err, y1.At, (0 : Int), (0 : Int)⟩ : Outcome))
  (forkB (decide (((x1.length : Nat) : Int) > (65535 : Int)))
   (some (⟨(3 : Int), (0 : Int), (0 : Int), (0 : Int)⟩ : Outcome))
   (execRun_L0 n x0 (0 : Int) (0 : Int) (0 : Int) (0 : Int) ((((List.replicate 11 (⟨(0 : Int), (0 : Int)⟩ : Val)).set 1 (⟨(2 : Int), ((List.replicate 11 (⟨(0 : Int), (0 : Int)⟩ : Val)).getD 1 dVal).n⟩ : Val)).set 10 (⟨(3 : Int), (((List.replicate 11 (⟨(0 : Int), (0 : Int)⟩ : Val)).set 1 (⟨(2 : Int), ((List.replicate 11 (⟨(0 : Int), (0 : Int)⟩ : Val)).getD 1 dVal).n⟩ : Val)).getD 10 dVal).n⟩ : Val)).set 2 (⟨(1 : Int), IntKind.u64.wrap ((x1.length : Nat) : Int)⟩ : Val)) (List.replicate 512 (0 : Int)) (List.replicate 512 false) x1 (0 : Int))) := by kernel_rfl
theorem execRun_L0_eq (n : Nat) (s0 : List Ins) (b0_0 : Int) (b0_1 : Int) (b0_2 : Int) (b0_3 : Int) (b1_0l : List Val) (b1_1l : List Int) (b1_2l : List Bool) (b1_3 : List Int) (b1_4 : Int) : execRun_L0 (n + 1) s0 b0_0 b0_1 b0_2 b0_3 b1_0l b1_1l b1_2l b1_3 b1_4 =
  if 0 ≤ b1_4 ∧ b1_4 < ((s0.length : Nat) : Int) then (forkB (decide (((s0.getD b1_4.toNat dIns).Op) = (12 : Int)))
  (obind (exec_does_g1a1 BIG ((s0.getD b1_4.toNat dIns).Op)) fun y1 =>
   obind (exec_machine_move_g1 BIG b1_0l b1_1l b1_2l b1_3 (IntKind.i64.wrap (b1_4 + (1 : Int))) (s0.getD b1_4.toNat dIns)) fun y2 =>
   forkB (y2.2.1 != (0 : Int))
   (some (⟨y2.2.1, b1_4, (0 : Int), IntKind.i64.wrap (b0_3 + (1 : Int))⟩ : Outcome))
   (execRun_L0 n s0 b0_0 b0_1 b0_2 (IntKind.i64.wrap (b0_3 + (1 : Int))) y2.1.1.1 y2.1.1.2.1 y2.1.1.2.2.1 y2.1.1.2.2.2.1 y2.1.1.2.2.2.2.1))
  (forkB ((!(decide (((s0.getD b1_4.toNat dIns).Op) = (12 : Int)))) && (decide (((s0.getD b1_4.toNat dIns).Op) = (13 : Int))))
   (obind (exec_does_g1a2 BIG ((s0.getD b1_4.toNat dIns).Op)) fun y3 =>
    obind (exec_machine_turn_g1 BIG b1_0l b1_1l b1_2l b1_3 (IntKind.i64.wrap (b1_4 + (1 : Int))) (s0.getD b1_4.toNat dIns)) fun y4 =>
    forkB (y4.2.1 != (0 : Int))
    (some (⟨y4.2.1, b1_4, (0 : Int), IntKind.i64.wrap (b0_3 + (1 : Int))⟩ : Outcome))
    (execRun_L0 n s0 b0_0 b0_1 b0_2 (IntKind.i64.wrap (b0_3 + (1 : Int))) y4.1.1.1 y4.1.1.2.1 y4.1.1.2.2.1 y4.1.1.2.2.2.1 y4.1.1.2.2.2.2.1))
   (forkB ((!(decide (((s0.getD b1_4.toNat dIns).Op) = (12 : Int)))) && ((!(decide (((s0.getD b1_4.toNat dIns).Op) = (13 : Int)))) && (decide (((s0.getD b1_4.toNat dIns).Op) = (14 : Int)))))
    (obind (exec_does_g1a3 BIG ((s0.getD b1_4.toNat dIns).Op)) fun y5 =>
     obind (exec_machine_load_g1 BIG b1_0l b1_1l b1_2l b1_3 (IntKind.i64.wrap (b1_4 + (1 : Int))) (s0.getD b1_4.toNat dIns)) fun y6 =>
     forkB (y6.2.1 != (0 : Int))
     (some (⟨y6.2.1, b1_4, (0 : Int), IntKind.i64.wrap (b0_3 + (1 : Int))⟩ : Outcome))
     (execRun_L0 n s0 b0_0 b0_1 b0_2 (IntKind.i64.wrap (b0_3 + (1 : Int))) y6.1.1.1 y6.1.1.2.1 y6.1.1.2.2.1 y6.1.1.2.2.2.1 y6.1.1.2.2.2.2.1))
    (forkB ((!(decide (((s0.getD b1_4.toNat dIns).Op) = (12 : Int)))) && ((!(decide (((s0.getD b1_4.toNat dIns).Op) = (13 : Int)))) && ((!(decide (((s0.getD b1_4.toNat dIns).Op) = (14 : Int)))) && (decide (((s0.getD b1_4.toNat dIns).Op) = (15 : Int))))))
     (obind (exec_does_g1a4 BIG ((s0.getD b1_4.toNat dIns).Op)) fun y7 =>
      obind (exec_machine_put_g1 BIG b1_0l b1_1l b1_2l b1_3 (IntKind.i64.wrap (b1_4 + (1 : Int))) (s0.getD b1_4.toNat dIns)) fun y8 =>
      forkB (y8.2.1 != (0 : Int))
      (some (⟨y8.2.1, b1_4, (0 : Int), IntKind.i64.wrap (b0_3 + (1 : Int))⟩ : Outcome))
      (execRun_L0 n s0 b0_0 b0_1 b0_2 (IntKind.i64.wrap (b0_3 + (1 : Int))) y8.1.1.1 y8.1.1.2.1 y8.1.1.2.2.1 y8.1.1.2.2.2.1 y8.1.1.2.2.2.2.1))
     (forkB ((!(decide (((s0.getD b1_4.toNat dIns).Op) = (12 : Int)))) && ((!(decide (((s0.getD b1_4.toNat dIns).Op) = (13 : Int)))) && ((!(decide (((s0.getD b1_4.toNat dIns).Op) = (14 : Int)))) && ((!(decide (((s0.getD b1_4.toNat dIns).Op) = (15 : Int)))) && (decide (((s0.getD b1_4.toNat dIns).Op) = (16 : Int)))))))
      (obind (exec_does_g1a5 BIG ((s0.getD b1_4.toNat dIns).Op)) fun y9 =>
       obind (exec_machine_jump_g1 BIG b1_0l b1_1l b1_2l b1_3 (IntKind.i64.wrap (b1_4 + (1 : Int))) (s0.getD b1_4.toNat dIns)) fun y10 =>
       forkB (y10.2.1 != (0 : Int))
       (some (⟨y10.2.1, b1_4, (0 : Int), IntKind.i64.wrap (b0_3 + (1 : Int))⟩ : Outcome))
       (execRun_L0 n s0 b0_0 b0_1 b0_2 (IntKind.i64.wrap (b0_3 + (1 : Int))) y10.1.1.1 y10.1.1.2.1 y10.1.1.2.2.1 y10.1.1.2.2.2.1 y10.1.1.2.2.2.2.1))
      (forkB ((!(decide (((s0.getD b1_4.toNat dIns).Op) = (12 : Int)))) && ((!(decide (((s0.getD b1_4.toNat dIns).Op) = (13 : Int)))) && ((!(decide (((s0.getD b1_4.toNat dIns).Op) = (14 : Int)))) && ((!(decide (((s0.getD b1_4.toNat dIns).Op) = (15 : Int)))) && ((!(decide (((s0.getD b1_4.toNat dIns).Op) = (16 : Int)))) && (decide (((s0.getD b1_4.toNat dIns).Op) = (28 : Int))))))))
       (obind (exec_does_g1a6 BIG ((s0.getD b1_4.toNat dIns).Op)) fun y11 =>
        forkB (match exec_machine_asks_g1 BIG b1_0l b1_1l b1_2l b1_3 (IntKind.i64.wrap (b1_4 + (1 : Int))) ([(0 : Int)] : List Int) with | some y1 => ((y1.2.1 != (0 : Int)) || (((b1_0l.getD 0 dVal).kind) != (1 : Int))) | none => false)
        (obind (exec_machine_exit_g1a1 BIG b1_0l b1_1l b1_2l b1_3 (IntKind.i64.wrap (b1_4 + (1 : Int))) (s0.getD b1_4.toNat dIns)) fun y12 =>
         forkB (y12.2.1 != (0 : Int))
         (some (⟨y12.2.1, b1_4, (0 : Int), IntKind.i64.wrap (b0_3 + (1 : Int))⟩ : Outcome))
         (execRun_L0 n s0 b0_0 b0_1 b0_2 (IntKind.i64.wrap (b0_3 + (1 : Int))) y12.1.1.1 y12.1.1.2.1 y12.1.1.2.2.1 y12.1.1.2.2.2.1 y12.1.1.2.2.2.2.1))
        (obind (exec_machine_exit_g1a2 BIG b1_0l b1_1l b1_2l b1_3 (IntKind.i64.wrap (b1_4 + (1 : Int))) (s0.getD b1_4.toNat dIns)) fun y13 =>
         forkB (y13.2.1 != (0 : Int))
         (some (⟨y13.2.1, b1_4, (0 : Int), IntKind.i64.wrap (b0_3 + (1 : Int))⟩ : Outcome))
         (execRun_L0a n s0 b0_0 b0_1 b0_2 (IntKind.i64.wrap (b0_3 + (1 : Int))) y13.1.1.1 y13.1.1.2.1 y13.1.1.2.2.1 y13.1.1.2.2.2.1 y13.1.1.2.2.2.2.1 y13.1.1.2.2.2.2.2.1)))
       (forkB ((!(decide (((s0.getD b1_4.toNat dIns).Op) = (12 : Int)))) && ((!(decide (((s0.getD b1_4.toNat dIns).Op) = (13 : Int)))) && ((!(decide (((s0.getD b1_4.toNat dIns).Op) = (14 : Int)))) && ((!(decide (((s0.getD b1_4.toNat dIns).Op) = (15 : Int)))) && ((!(decide (((s0.getD b1_4.toNat dIns).Op) = (16 : Int)))) && ((!(decide (((s0.getD b1_4.toNat dIns).Op) = (28 : Int)))) && (decide (((s0.getD b1_4.toNat dIns).Op) < (12 : Int)))))))))
        (obind (exec_does_g1a7 BIG ((s0.getD b1_4.toNat dIns).Op)) fun y14 =>
         obind (exec_machine_reckon_g1 BIG b1_0l b1_1l b1_2l b1_3 (IntKind.i64.wrap (b1_4 + (1 : Int))) (s0.getD b1_4.toNat dIns)) fun y15 =>
         forkB (y15.2.1 != (0 : Int))
         (some (⟨y15.2.1, b1_4, (0 : Int), IntKind.i64.wrap (b0_3 + (1 : Int))⟩ : Outcome))
         (execRun_L0 n s0 b0_0 b0_1 b0_2 (IntKind.i64.wrap (b0_3 + (1 : Int))) y15.1.1.1 y15.1.1.2.1 y15.1.1.2.2.1 y15.1.1.2.2.2.1 y15.1.1.2.2.2.2.1))
        (obind (exec_does_g1a8 BIG ((s0.getD b1_4.toNat dIns).Op)) fun y16 =>
         obind (exec_machine_branch_g1 BIG b1_0l b1_1l b1_2l b1_3 (IntKind.i64.wrap (b1_4 + (1 : Int))) (s0.getD b1_4.toNat dIns)) fun y17 =>
         forkB (y17.2.1 != (0 : Int))
         (some (⟨y17.2.1, b1_4, (0 : Int), IntKind.i64.wrap (b0_3 + (1 : Int))⟩ : Outcome))
         (execRun_L0 n s0 b0_0 b0_1 b0_2 (IntKind.i64.wrap (b0_3 + (1 : Int))) y17.1.1.1 y17.1.1.2.1 y17.1.1.2.2.1 y17.1.1.2.2.2.1 y17.1.1.2.2.2.2.1))))))))) else none := by kernel_rfl
theorem execRun_L0a_eq (n : Nat) (s0 : List Ins) (b0_0 : Int) (b0_1 : Int) (b0_2 : Int) (b0_3 : Int) (b1_0l : List Val) (b1_1l : List Int) (b1_2l : List Bool) (b1_3 : List Int) (b1_4 : Int) (b1_5k : Nat) : execRun_L0a (n + 1) s0 b0_0 b0_1 b0_2 b0_3 b1_0l b1_1l b1_2l b1_3 b1_4 b1_5k =
  some (⟨b0_0, b0_1, (b1_0l.getD b1_5k dVal).n, b0_3⟩ : Outcome) := by kernel_rfl
noncomputable def execRun_sp : FnSpec TT := ⟨[.val (.list (.user 0)), .val (.list (.int .u8))], [.val (.user 2)], fun x => execRun BIG x.1 x.2⟩
theorem execRun_ok : FnOk TT Try.prog 8 execRun_sp := fnOk_of (C := execRun_C) (by kernel_rfl) execRun_env Try.func8 (show Try.f8.body = some (bodyOf Try.f8) by kernel_rfl) (by kernel_rfl) (by kernel_rfl) (cuts := execRun_cuts) fun x y h => ⟨BIG, h⟩
end Go.X
