/- Numbers. -/
import Derived.Test.YtbchneelmiflaaaIp
namespace Go.X
open Go.RowKit Go.V Go.Proofs
noncomputable def alu_do_i1_g1_C : Ctx TT := ⟨tyOf, [], 2, [], layOf⟩
theorem alu_do_i1_g1_env : EnvOk TT Try.prog alu_do_i1_g1_C.E := envNil
def alu_do_i1_g1_cuts : List (Pos × Cut) := []
noncomputable def alu_do_i1_g1 (n : Nat) (x0 : Int) (x1 : Int) : Option (((Int × Unit) × (Int × Unit) × Unit) × (Int × Unit)) := topG TT Try.prog alu_do_i1_g1_C alu_do_i1_g1_cuts Try.f64 (bodyOf Try.f64) ⟨[], [], [], [], []⟩ [.ptr 0 70 [.val (.int .u32)], .ptr 0 70 [.val (.int .u32)]] [.blk 70 [.val (.int .u32)], .blk 70 [.val (.int .u32)]] [.val (.int .u32)] n ((x0, ()), (x1, ()), ())
theorem alu_do_i1_g1_eq (n : Nat) (x0 : Int) (x1 : Int) : alu_do_i1_g1 n x0 x1 =
  some (((x0, ()), (x1, ()), ()), (IntKind.u32.wrap (x0 + x1), ())) := by kernel_rfl
noncomputable def alu_do_i1_g1_sp : GSpec TT := ⟨[.ptr 0 70 [.val (.int .u32)], .ptr 0 70 [.val (.int .u32)]], [.blk 70 [.val (.int .u32)], .blk 70 [.val (.int .u32)]], [.val (.int .u32)], fun x => alu_do_i1_g1 BIG x.1.1 x.2.1.1⟩
theorem alu_do_i1_g1_ok : GOk TT Try.prog 64 alu_do_i1_g1_sp := gOk_of (C := alu_do_i1_g1_C) (cuts := alu_do_i1_g1_cuts) (by kernel_rfl) alu_do_i1_g1_env Try.func64 (show Try.f64.body = some (bodyOf Try.f64) by kernel_rfl) (by kernel_rfl) (by kernel_rfl) (by kernel_rfl) fun x y h => ⟨BIG, h⟩
noncomputable def alu_do_i2_g1_C : Ctx TT := ⟨tyOf, [], 2, [], layOf⟩
theorem alu_do_i2_g1_env : EnvOk TT Try.prog alu_do_i2_g1_C.E := envNil
def alu_do_i2_g1_cuts : List (Pos × Cut) := []
noncomputable def alu_do_i2_g1 (n : Nat) (x0 : Int) (x1 : Int) : Option (((Int × Unit) × (Int × Unit) × Unit) × (Int × Unit)) := topG TT Try.prog alu_do_i2_g1_C alu_do_i2_g1_cuts Try.f65 (bodyOf Try.f65) ⟨[], [], [], [], []⟩ [.ptr 0 70 [.val (.int .u32)], .ptr 0 70 [.val (.int .u32)]] [.blk 70 [.val (.int .u32)], .blk 70 [.val (.int .u32)]] [.val (.int .u32)] n ((x0, ()), (x1, ()), ())
theorem alu_do_i2_g1_eq (n : Nat) (x0 : Int) (x1 : Int) : alu_do_i2_g1 n x0 x1 =
  some (((x0, ()), (x1, ()), ()), (IntKind.u32.wrap (x0 - x1), ())) := by kernel_rfl
noncomputable def alu_do_i2_g1_sp : GSpec TT := ⟨[.ptr 0 70 [.val (.int .u32)], .ptr 0 70 [.val (.int .u32)]], [.blk 70 [.val (.int .u32)], .blk 70 [.val (.int .u32)]], [.val (.int .u32)], fun x => alu_do_i2_g1 BIG x.1.1 x.2.1.1⟩
theorem alu_do_i2_g1_ok : GOk TT Try.prog 65 alu_do_i2_g1_sp := gOk_of (C := alu_do_i2_g1_C) (cuts := alu_do_i2_g1_cuts) (by kernel_rfl) alu_do_i2_g1_env Try.func65 (show Try.f65.body = some (bodyOf Try.f65) by kernel_rfl) (by kernel_rfl) (by kernel_rfl) (by kernel_rfl) fun x y h => ⟨BIG, h⟩
noncomputable def alu_do_i3_g1_C : Ctx TT := ⟨tyOf, [], 2, [], layOf⟩
theorem alu_do_i3_g1_env : EnvOk TT Try.prog alu_do_i3_g1_C.E := envNil
def alu_do_i3_g1_cuts : List (Pos × Cut) := []
noncomputable def alu_do_i3_g1 (n : Nat) (x0 : Int) (x1 : Int) : Option (((Int × Unit) × (Int × Unit) × Unit) × (Int × Unit)) := topG TT Try.prog alu_do_i3_g1_C alu_do_i3_g1_cuts Try.f66 (bodyOf Try.f66) ⟨[], [], [], [], []⟩ [.ptr 0 70 [.val (.int .u32)], .ptr 0 70 [.val (.int .u32)]] [.blk 70 [.val (.int .u32)], .blk 70 [.val (.int .u32)]] [.val (.int .u32)] n ((x0, ()), (x1, ()), ())
theorem alu_do_i3_g1_eq (n : Nat) (x0 : Int) (x1 : Int) : alu_do_i3_g1 n x0 x1 =
  some (((x0, ()), (x1, ()), ()), (IntKind.u32.wrap (x0 * x1), ())) := by kernel_rfl
noncomputable def alu_do_i3_g1_sp : GSpec TT := ⟨[.ptr 0 70 [.val (.int .u32)], .ptr 0 70 [.val (.int .u32)]], [.blk 70 [.val (.int .u32)], .blk 70 [.val (.int .u32)]], [.val (.int .u32)], fun x => alu_do_i3_g1 BIG x.1.1 x.2.1.1⟩
theorem alu_do_i3_g1_ok : GOk TT Try.prog 66 alu_do_i3_g1_sp := gOk_of (C := alu_do_i3_g1_C) (cuts := alu_do_i3_g1_cuts) (by kernel_rfl) alu_do_i3_g1_env Try.func66 (show Try.f66.body = some (bodyOf Try.f66) by kernel_rfl) (by kernel_rfl) (by kernel_rfl) (by kernel_rfl) fun x y h => ⟨BIG, h⟩
noncomputable def alu_do_i4_g1_C : Ctx TT := ⟨tyOf, [], 2, [], layOf⟩
theorem alu_do_i4_g1_env : EnvOk TT Try.prog alu_do_i4_g1_C.E := envNil
def alu_do_i4_g1_cuts : List (Pos × Cut) := []
noncomputable def alu_do_i4_g1 (n : Nat) (x0 : Int) (x1 : Int) : Option (((Int × Unit) × (Int × Unit) × Unit) × (Int × Unit)) := topG TT Try.prog alu_do_i4_g1_C alu_do_i4_g1_cuts Try.f67 (bodyOf Try.f67) ⟨[], [], [], [], []⟩ [.ptr 0 70 [.val (.int .u32)], .ptr 0 70 [.val (.int .u32)]] [.blk 70 [.val (.int .u32)], .blk 70 [.val (.int .u32)]] [.val (.int .u32)] n ((x0, ()), (x1, ()), ())
theorem alu_do_i4_g1_eq (n : Nat) (x0 : Int) (x1 : Int) : alu_do_i4_g1 n x0 x1 =
  if x1 = 0 then none else (some (((x0, ()), (x1, ()), ()), (IntKind.u32.wrap (x0.tdiv x1), ()))) := by kernel_rfl
noncomputable def alu_do_i4_g1_sp : GSpec TT := ⟨[.ptr 0 70 [.val (.int .u32)], .ptr 0 70 [.val (.int .u32)]], [.blk 70 [.val (.int .u32)], .blk 70 [.val (.int .u32)]], [.val (.int .u32)], fun x => alu_do_i4_g1 BIG x.1.1 x.2.1.1⟩
theorem alu_do_i4_g1_ok : GOk TT Try.prog 67 alu_do_i4_g1_sp := gOk_of (C := alu_do_i4_g1_C) (cuts := alu_do_i4_g1_cuts) (by kernel_rfl) alu_do_i4_g1_env Try.func67 (show Try.f67.body = some (bodyOf Try.f67) by kernel_rfl) (by kernel_rfl) (by kernel_rfl) (by kernel_rfl) fun x y h => ⟨BIG, h⟩
noncomputable def alu_do_i5_g1_C : Ctx TT := ⟨tyOf, [], 2, [], layOf⟩
theorem alu_do_i5_g1_env : EnvOk TT Try.prog alu_do_i5_g1_C.E := envNil
def alu_do_i5_g1_cuts : List (Pos × Cut) := []
noncomputable def alu_do_i5_g1 (n : Nat) (x0 : Int) (x1 : Int) : Option (((Int × Unit) × (Int × Unit) × Unit) × (Int × Unit)) := topG TT Try.prog alu_do_i5_g1_C alu_do_i5_g1_cuts Try.f68 (bodyOf Try.f68) ⟨[], [], [], [], []⟩ [.ptr 0 70 [.val (.int .u32)], .ptr 0 70 [.val (.int .u32)]] [.blk 70 [.val (.int .u32)], .blk 70 [.val (.int .u32)]] [.val (.int .u32)] n ((x0, ()), (x1, ()), ())
theorem alu_do_i5_g1_eq (n : Nat) (x0 : Int) (x1 : Int) : alu_do_i5_g1 n x0 x1 =
  if x1 = 0 then none else (some (((x0, ()), (x1, ()), ()), (x0.tmod x1, ()))) := by kernel_rfl
noncomputable def alu_do_i5_g1_sp : GSpec TT := ⟨[.ptr 0 70 [.val (.int .u32)], .ptr 0 70 [.val (.int .u32)]], [.blk 70 [.val (.int .u32)], .blk 70 [.val (.int .u32)]], [.val (.int .u32)], fun x => alu_do_i5_g1 BIG x.1.1 x.2.1.1⟩
theorem alu_do_i5_g1_ok : GOk TT Try.prog 68 alu_do_i5_g1_sp := gOk_of (C := alu_do_i5_g1_C) (cuts := alu_do_i5_g1_cuts) (by kernel_rfl) alu_do_i5_g1_env Try.func68 (show Try.f68.body = some (bodyOf Try.f68) by kernel_rfl) (by kernel_rfl) (by kernel_rfl) (by kernel_rfl) fun x y h => ⟨BIG, h⟩
noncomputable def alu_do_i6_g1_C : Ctx TT := ⟨tyOf, [], 2, [], layOf⟩
theorem alu_do_i6_g1_env : EnvOk TT Try.prog alu_do_i6_g1_C.E := envNil
def alu_do_i6_g1_cuts : List (Pos × Cut) := []
noncomputable def alu_do_i6_g1 (n : Nat) (x0 : Int) (x1 : Int) : Option (((Int × Unit) × (Int × Unit) × Unit) × (Int × Unit)) := topG TT Try.prog alu_do_i6_g1_C alu_do_i6_g1_cuts Try.f69 (bodyOf Try.f69) ⟨[], [], [], [], []⟩ [.ptr 0 70 [.val (.int .u32)], .ptr 0 70 [.val (.int .u32)]] [.blk 70 [.val (.int .u32)], .blk 70 [.val (.int .u32)]] [.val (.int .u32)] n ((x0, ()), (x1, ()), ())
theorem alu_do_i6_g1_eq (n : Nat) (x0 : Int) (x1 : Int) : alu_do_i6_g1 n x0 x1 =
  some (((x0, ()), (x1, ()), ()), (bAnd .u32 x0 x1, ())) := by kernel_rfl
noncomputable def alu_do_i6_g1_sp : GSpec TT := ⟨[.ptr 0 70 [.val (.int .u32)], .ptr 0 70 [.val (.int .u32)]], [.blk 70 [.val (.int .u32)], .blk 70 [.val (.int .u32)]], [.val (.int .u32)], fun x => alu_do_i6_g1 BIG x.1.1 x.2.1.1⟩
theorem alu_do_i6_g1_ok : GOk TT Try.prog 69 alu_do_i6_g1_sp := gOk_of (C := alu_do_i6_g1_C) (cuts := alu_do_i6_g1_cuts) (by kernel_rfl) alu_do_i6_g1_env Try.func69 (show Try.f69.body = some (bodyOf Try.f69) by kernel_rfl) (by kernel_rfl) (by kernel_rfl) (by kernel_rfl) fun x y h => ⟨BIG, h⟩
noncomputable def alu_do_i7_g1_C : Ctx TT := ⟨tyOf, [], 2, [], layOf⟩
theorem alu_do_i7_g1_env : EnvOk TT Try.prog alu_do_i7_g1_C.E := envNil
def alu_do_i7_g1_cuts : List (Pos × Cut) := []
noncomputable def alu_do_i7_g1 (n : Nat) (x0 : Int) (x1 : Int) : Option (((Int × Unit) × (Int × Unit) × Unit) × (Int × Unit)) := topG TT Try.prog alu_do_i7_g1_C alu_do_i7_g1_cuts Try.f70 (bodyOf Try.f70) ⟨[], [], [], [], []⟩ [.ptr 0 70 [.val (.int .u32)], .ptr 0 70 [.val (.int .u32)]] [.blk 70 [.val (.int .u32)], .blk 70 [.val (.int .u32)]] [.val (.int .u32)] n ((x0, ()), (x1, ()), ())
theorem alu_do_i7_g1_eq (n : Nat) (x0 : Int) (x1 : Int) : alu_do_i7_g1 n x0 x1 =
  some (((x0, ()), (x1, ()), ()), (bOr .u32 x0 x1, ())) := by kernel_rfl
noncomputable def alu_do_i7_g1_sp : GSpec TT := ⟨[.ptr 0 70 [.val (.int .u32)], .ptr 0 70 [.val (.int .u32)]], [.blk 70 [.val (.int .u32)], .blk 70 [.val (.int .u32)]], [.val (.int .u32)], fun x => alu_do_i7_g1 BIG x.1.1 x.2.1.1⟩
theorem alu_do_i7_g1_ok : GOk TT Try.prog 70 alu_do_i7_g1_sp := gOk_of (C := alu_do_i7_g1_C) (cuts := alu_do_i7_g1_cuts) (by kernel_rfl) alu_do_i7_g1_env Try.func70 (show Try.f70.body = some (bodyOf Try.f70) by kernel_rfl) (by kernel_rfl) (by kernel_rfl) (by kernel_rfl) fun x y h => ⟨BIG, h⟩
noncomputable def alu_do_i8_g1_C : Ctx TT := ⟨tyOf, [], 2, [], layOf⟩
theorem alu_do_i8_g1_env : EnvOk TT Try.prog alu_do_i8_g1_C.E := envNil
def alu_do_i8_g1_cuts : List (Pos × Cut) := []
noncomputable def alu_do_i8_g1 (n : Nat) (x0 : Int) (x1 : Int) : Option (((Int × Unit) × (Int × Unit) × Unit) × (Int × Unit)) := topG TT Try.prog alu_do_i8_g1_C alu_do_i8_g1_cuts Try.f71 (bodyOf Try.f71) ⟨[], [], [], [], []⟩ [.ptr 0 70 [.val (.int .u32)], .ptr 0 70 [.val (.int .u32)]] [.blk 70 [.val (.int .u32)], .blk 70 [.val (.int .u32)]] [.val (.int .u32)] n ((x0, ()), (x1, ()), ())
theorem alu_do_i8_g1_eq (n : Nat) (x0 : Int) (x1 : Int) : alu_do_i8_g1 n x0 x1 =
  some (((x0, ()), (x1, ()), ()), (bXor .u32 x0 x1, ())) := by kernel_rfl
noncomputable def alu_do_i8_g1_sp : GSpec TT := ⟨[.ptr 0 70 [.val (.int .u32)], .ptr 0 70 [.val (.int .u32)]], [.blk 70 [.val (.int .u32)], .blk 70 [.val (.int .u32)]], [.val (.int .u32)], fun x => alu_do_i8_g1 BIG x.1.1 x.2.1.1⟩
theorem alu_do_i8_g1_ok : GOk TT Try.prog 71 alu_do_i8_g1_sp := gOk_of (C := alu_do_i8_g1_C) (cuts := alu_do_i8_g1_cuts) (by kernel_rfl) alu_do_i8_g1_env Try.func71 (show Try.f71.body = some (bodyOf Try.f71) by kernel_rfl) (by kernel_rfl) (by kernel_rfl) (by kernel_rfl) fun x y h => ⟨BIG, h⟩
noncomputable def alu_do_i9_g1_C : Ctx TT := ⟨tyOf, [], 3, [], layOf⟩
theorem alu_do_i9_g1_env : EnvOk TT Try.prog alu_do_i9_g1_C.E := envNil
def alu_do_i9_g1_cuts : List (Pos × Cut) := []
noncomputable def alu_do_i9_g1 (n : Nat) (x0 : Int) (x1 : Int) (x2 : Int) : Option (((Int × Unit) × (Int × Unit) × (Int × Unit) × Unit) × (Int × Unit)) := topG TT Try.prog alu_do_i9_g1_C alu_do_i9_g1_cuts Try.f72 (bodyOf Try.f72) ⟨[], [], [], [], []⟩ [.ptr 0 70 [.val (.int .u32)], .ptr 0 70 [.val (.int .u32)], .ptr 0 70 [.val (.int .u32)]] [.blk 70 [.val (.int .u32)], .blk 70 [.val (.int .u32)], .blk 70 [.val (.int .u32)]] [.val (.int .u32)] n ((x0, ()), (x1, ()), (x2, ()), ())
theorem alu_do_i9_g1_eq (n : Nat) (x0 : Int) (x1 : Int) (x2 : Int) : alu_do_i9_g1 n x0 x1 x2 =
  if x2 = 0 then none else (if x1.tmod x2 < 0 then none else (some (((x0, ()), (x1, ()), (x2, ()), ()), (sShl .u32 x0 (x1.tmod x2), ())))) := by kernel_rfl
noncomputable def alu_do_i9_g1_sp : GSpec TT := ⟨[.ptr 0 70 [.val (.int .u32)], .ptr 0 70 [.val (.int .u32)], .ptr 0 70 [.val (.int .u32)]], [.blk 70 [.val (.int .u32)], .blk 70 [.val (.int .u32)], .blk 70 [.val (.int .u32)]], [.val (.int .u32)], fun x => alu_do_i9_g1 BIG x.1.1 x.2.1.1 x.2.2.1.1⟩
theorem alu_do_i9_g1_ok : GOk TT Try.prog 72 alu_do_i9_g1_sp := gOk_of (C := alu_do_i9_g1_C) (cuts := alu_do_i9_g1_cuts) (by kernel_rfl) alu_do_i9_g1_env Try.func72 (show Try.f72.body = some (bodyOf Try.f72) by kernel_rfl) (by kernel_rfl) (by kernel_rfl) (by kernel_rfl) fun x y h => ⟨BIG, h⟩
noncomputable def alu_do_i10_g1_C : Ctx TT := ⟨tyOf, [], 3, [], layOf⟩
theorem alu_do_i10_g1_env : EnvOk TT Try.prog alu_do_i10_g1_C.E := envNil
def alu_do_i10_g1_cuts : List (Pos × Cut) := []
noncomputable def alu_do_i10_g1 (n : Nat) (x0 : Int) (x1 : Int) (x2 : Int) : Option (((Int × Unit) × (Int × Unit) × (Int × Unit) × Unit) × (Int × Unit)) := topG TT Try.prog alu_do_i10_g1_C alu_do_i10_g1_cuts Try.f73 (bodyOf Try.f73) ⟨[], [], [], [], []⟩ [.ptr 0 70 [.val (.int .u32)], .ptr 0 70 [.val (.int .u32)], .ptr 0 70 [.val (.int .u32)]] [.blk 70 [.val (.int .u32)], .blk 70 [.val (.int .u32)], .blk 70 [.val (.int .u32)]] [.val (.int .u32)] n ((x0, ()), (x1, ()), (x2, ()), ())
theorem alu_do_i10_g1_eq (n : Nat) (x0 : Int) (x1 : Int) (x2 : Int) : alu_do_i10_g1 n x0 x1 x2 =
  if x2 = 0 then none else (if x1.tmod x2 < 0 then none else (some (((x0, ()), (x1, ()), (x2, ()), ()), (sShr .u32 x0 (x1.tmod x2), ())))) := by kernel_rfl
noncomputable def alu_do_i10_g1_sp : GSpec TT := ⟨[.ptr 0 70 [.val (.int .u32)], .ptr 0 70 [.val (.int .u32)], .ptr 0 70 [.val (.int .u32)]], [.blk 70 [.val (.int .u32)], .blk 70 [.val (.int .u32)], .blk 70 [.val (.int .u32)]], [.val (.int .u32)], fun x => alu_do_i10_g1 BIG x.1.1 x.2.1.1 x.2.2.1.1⟩
theorem alu_do_i10_g1_ok : GOk TT Try.prog 73 alu_do_i10_g1_sp := gOk_of (C := alu_do_i10_g1_C) (cuts := alu_do_i10_g1_cuts) (by kernel_rfl) alu_do_i10_g1_env Try.func73 (show Try.f73.body = some (bodyOf Try.f73) by kernel_rfl) (by kernel_rfl) (by kernel_rfl) (by kernel_rfl) fun x y h => ⟨BIG, h⟩
noncomputable def alu_do_i11_g1_C : Ctx TT := ⟨tyOf, [], 3, [], layOf⟩
theorem alu_do_i11_g1_env : EnvOk TT Try.prog alu_do_i11_g1_C.E := envNil
def alu_do_i11_g1_cuts : List (Pos × Cut) := []
noncomputable def alu_do_i11_g1 (n : Nat) (x0 : Int) (x1 : Int) (x2 : Int) : Option (((Int × Unit) × (Int × Unit) × (Int × Unit) × Unit) × (Int × Unit)) := topG TT Try.prog alu_do_i11_g1_C alu_do_i11_g1_cuts Try.f74 (bodyOf Try.f74) ⟨[], [], [], [], []⟩ [.ptr 0 70 [.val (.int .u32)], .ptr 0 70 [.val (.int .u32)], .ptr 0 70 [.val (.int .u32)]] [.blk 70 [.val (.int .u32)], .blk 70 [.val (.int .u32)], .blk 70 [.val (.int .u32)]] [.val (.int .u32)] n ((x0, ()), (x1, ()), (x2, ()), ())
theorem alu_do_i11_g1_eq (n : Nat) (x0 : Int) (x1 : Int) (x2 : Int) : alu_do_i11_g1 n x0 x1 x2 =
  if x2 = 0 then none else (if x1.tmod x2 < 0 then none else (some (((x0, ()), (x1, ()), (x2, ()), ()), (IntKind.u32.wrap (sShr .i32 (IntKind.i32.wrap x0) (x1.tmod x2)), ())))) := by kernel_rfl
noncomputable def alu_do_i11_g1_sp : GSpec TT := ⟨[.ptr 0 70 [.val (.int .u32)], .ptr 0 70 [.val (.int .u32)], .ptr 0 70 [.val (.int .u32)]], [.blk 70 [.val (.int .u32)], .blk 70 [.val (.int .u32)], .blk 70 [.val (.int .u32)]], [.val (.int .u32)], fun x => alu_do_i11_g1 BIG x.1.1 x.2.1.1 x.2.2.1.1⟩
theorem alu_do_i11_g1_ok : GOk TT Try.prog 74 alu_do_i11_g1_sp := gOk_of (C := alu_do_i11_g1_C) (cuts := alu_do_i11_g1_cuts) (by kernel_rfl) alu_do_i11_g1_env Try.func74 (show Try.f74.body = some (bodyOf Try.f74) by kernel_rfl) (by kernel_rfl) (by kernel_rfl) (by kernel_rfl) fun x y h => ⟨BIG, h⟩
noncomputable def alu_do_i12_g1_C : Ctx TT := ⟨tyOf, [], 1, [], layOf⟩
theorem alu_do_i12_g1_env : EnvOk TT Try.prog alu_do_i12_g1_C.E := envNil
def alu_do_i12_g1_cuts : List (Pos × Cut) := []
noncomputable def alu_do_i12_g1 (n : Nat) (x0 : Int) : Option (((Int × Unit) × Unit) × (Int × Unit)) := topG TT Try.prog alu_do_i12_g1_C alu_do_i12_g1_cuts Try.f75 (bodyOf Try.f75) ⟨[], [], [], [], []⟩ [.ptr 0 70 [.val (.int .u32)]] [.blk 70 [.val (.int .u32)]] [.val (.int .u32)] n ((x0, ()), ())
theorem alu_do_i12_g1_eq (n : Nat) (x0 : Int) : alu_do_i12_g1 n x0 =
  some (((x0, ()), ()), (x0, ())) := by kernel_rfl
noncomputable def alu_do_i12_g1_sp : GSpec TT := ⟨[.ptr 0 70 [.val (.int .u32)]], [.blk 70 [.val (.int .u32)]], [.val (.int .u32)], fun x => alu_do_i12_g1 BIG x.1.1⟩
theorem alu_do_i12_g1_ok : GOk TT Try.prog 75 alu_do_i12_g1_sp := gOk_of (C := alu_do_i12_g1_C) (cuts := alu_do_i12_g1_cuts) (by kernel_rfl) alu_do_i12_g1_env Try.func75 (show Try.f75.body = some (bodyOf Try.f75) by kernel_rfl) (by kernel_rfl) (by kernel_rfl) (by kernel_rfl) fun x y h => ⟨BIG, h⟩
noncomputable def alu_do_i13_g1_C : Ctx TT := ⟨tyOf, [], 1, [], layOf⟩
theorem alu_do_i13_g1_env : EnvOk TT Try.prog alu_do_i13_g1_C.E := envNil
def alu_do_i13_g1_cuts : List (Pos × Cut) := []
noncomputable def alu_do_i13_g1 (n : Nat) (x0 : Int) : Option (((Int × Unit) × Unit) × (Int × Unit)) := topG TT Try.prog alu_do_i13_g1_C alu_do_i13_g1_cuts Try.f76 (bodyOf Try.f76) ⟨[], [], [], [], []⟩ [.ptr 0 70 [.val (.int .u32)]] [.blk 70 [.val (.int .u32)]] [.val (.int .u32)] n ((x0, ()), ())
theorem alu_do_i13_g1_eq (n : Nat) (x0 : Int) : alu_do_i13_g1 n x0 =
  some (((x0, ()), ()), (IntKind.u32.wrap (0 - x0), ())) := by kernel_rfl
noncomputable def alu_do_i13_g1_sp : GSpec TT := ⟨[.ptr 0 70 [.val (.int .u32)]], [.blk 70 [.val (.int .u32)]], [.val (.int .u32)], fun x => alu_do_i13_g1 BIG x.1.1⟩
theorem alu_do_i13_g1_ok : GOk TT Try.prog 76 alu_do_i13_g1_sp := gOk_of (C := alu_do_i13_g1_C) (cuts := alu_do_i13_g1_cuts) (by kernel_rfl) alu_do_i13_g1_env Try.func76 (show Try.f76.body = some (bodyOf Try.f76) by kernel_rfl) (by kernel_rfl) (by kernel_rfl) (by kernel_rfl) fun x y h => ⟨BIG, h⟩
noncomputable def alu_do_C : Ctx TT := ⟨tyOf, [(64, alu_do_i1_g1_sp.toCall (noCall TT)), (65, alu_do_i2_g1_sp.toCall (noCall TT)), (66, alu_do_i3_g1_sp.toCall (noCall TT)), (67, alu_do_i4_g1_sp.toCall (noCall TT)), (68, alu_do_i5_g1_sp.toCall (noCall TT)), (69, alu_do_i6_g1_sp.toCall (noCall TT)), (70, alu_do_i7_g1_sp.toCall (noCall TT)), (71, alu_do_i8_g1_sp.toCall (noCall TT)), (72, alu_do_i9_g1_sp.toCall (noCall TT)), (73, alu_do_i10_g1_sp.toCall (noCall TT)), (74, alu_do_i11_g1_sp.toCall (noCall TT)), (75, alu_do_i12_g1_sp.toCall (noCall TT)), (76, alu_do_i13_g1_sp.toCall (noCall TT))], 0, [], layOf⟩
theorem alu_do_env : EnvOk TT Try.prog alu_do_C.E := envG (gCall_ok alu_do_i1_g1_ok (noCall_ok 64)) (envG (gCall_ok alu_do_i2_g1_ok (noCall_ok 65)) (envG (gCall_ok alu_do_i3_g1_ok (noCall_ok 66)) (envG (gCall_ok alu_do_i4_g1_ok (noCall_ok 67)) (envG (gCall_ok alu_do_i5_g1_ok (noCall_ok 68)) (envG (gCall_ok alu_do_i6_g1_ok (noCall_ok 69)) (envG (gCall_ok alu_do_i7_g1_ok (noCall_ok 70)) (envG (gCall_ok alu_do_i8_g1_ok (noCall_ok 71)) (envG (gCall_ok alu_do_i9_g1_ok (noCall_ok 72)) (envG (gCall_ok alu_do_i10_g1_ok (noCall_ok 73)) (envG (gCall_ok alu_do_i11_g1_ok (noCall_ok 74)) (envG (gCall_ok alu_do_i12_g1_ok (noCall_ok 75)) (envG (gCall_ok alu_do_i13_g1_ok (noCall_ok 76)) (envNil)))))))))))))
def alu_do_cuts : List (Pos × Cut) := [([false, true], ⟨[0, 5, 6, 7, 21], [], false, []⟩)]
noncomputable def alu_do (n : Nat) (x0 : Int) (x1 : Int) (x2 : Int) (x3 : Int) : Option (Int × Int) := topF TT Try.prog alu_do_C alu_do_cuts Try.f44 (bodyOf Try.f44) ⟨[], []⟩ [.val (.int .u8), .val (.int .u32), .val (.int .u32), .val (.int .u32)] [.val (.int .u32), .val (.int .i64)] n (x0, x1, x2, x3)
noncomputable def alu_do_J0 (n : Nat) (s0 : Int) (s21 : Bool) (b0_0 : Int) (b1_0 : Int) (b2_0 : Int) : Option (Int × Int) := cutF TT Try.prog alu_do_C alu_do_cuts Try.f44 (bodyOf Try.f44) ⟨[], []⟩ [.val (.int .u8), .val (.int .u32), .val (.int .u32), .val (.int .u32)] [.val (.int .u32), .val (.int .i64)] n [false, true] ⟨[(0, .cell ⟨.int .u8, s0⟩), (5, .ptr 0 0), (6, .ptr 1 0), (7, .ptr 2 0), (21, .cell ⟨.bool, s21⟩)], [.blk 70 [.cell ⟨.int .u32, b0_0⟩], .blk 70 [.cell ⟨.int .u32, b1_0⟩], .blk 70 [.cell ⟨.int .u32, b2_0⟩]]⟩
theorem alu_do_eq (n : Nat) (x0 : Int) (x1 : Int) (x2 : Int) (x3 : Int) : alu_do n x0 x1 x2 x3 =
  forkB (x0 == (4 : Int))
  (alu_do_J0 n x0 (x3 == (0 : Int)) x1 x2 x3)
  (forkB (x0 == (5 : Int))
   (alu_do_J0 n x0 (x3 == (0 : Int)) x1 x2 x3)
   (alu_do_J0 n x0 false x1 x2 x3)) := by kernel_rfl
theorem alu_do_J0_eq (n : Nat) (s0 : Int) (s21 : Bool) (b0_0 : Int) (b1_0 : Int) (b2_0 : Int) : alu_do_J0 (n + 1) s0 s21 b0_0 b1_0 b2_0 =
  forkB s21
  (some ((0 : Int), (113 : Int)))
  (if s0 = (1 : Int) then (obind (alu_do_i1_g1 BIG b1_0 b2_0) fun y1 =>
    some (y1.2.1, (0 : Int))) else (if s0 = (2 : Int) then (obind (alu_do_i2_g1 BIG b1_0 b2_0) fun y2 =>
     some (y2.2.1, (0 : Int))) else (if s0 = (3 : Int) then (obind (alu_do_i3_g1 BIG b1_0 b2_0) fun y3 =>
      some (y3.2.1, (0 : Int))) else (if s0 = (4 : Int) then (obind (alu_do_i4_g1 BIG b1_0 b2_0) fun y4 =>
       some (y4.2.1, (0 : Int))) else (if s0 = (5 : Int) then (obind (alu_do_i5_g1 BIG b1_0 b2_0) fun y5 =>
        some (y5.2.1, (0 : Int))) else (if s0 = (6 : Int) then (obind (alu_do_i6_g1 BIG b1_0 b2_0) fun y6 =>
         some (y6.2.1, (0 : Int))) else (if s0 = (7 : Int) then (obind (alu_do_i7_g1 BIG b1_0 b2_0) fun y7 =>
          some (y7.2.1, (0 : Int))) else (if s0 = (8 : Int) then (obind (alu_do_i8_g1 BIG b1_0 b2_0) fun y8 =>
           some (y8.2.1, (0 : Int))) else (if s0 = (9 : Int) then (obind (alu_do_i9_g1 BIG b1_0 b2_0 b0_0) fun y9 =>
            some (y9.2.1, (0 : Int))) else (if s0 = (10 : Int) then (obind (alu_do_i10_g1 BIG b1_0 b2_0 b0_0) fun y10 =>
             some (y10.2.1, (0 : Int))) else (if s0 = (11 : Int) then (obind (alu_do_i11_g1 BIG b1_0 b2_0 b0_0) fun y11 =>
              some (y11.2.1, (0 : Int))) else (if s0 = (12 : Int) then (obind (alu_do_i12_g1 BIG b2_0) fun y12 =>
               some (y12.2.1, (0 : Int))) else (if s0 = (13 : Int) then (obind (alu_do_i13_g1 BIG b1_0) fun y13 =>
                some (y13.2.1, (0 : Int))) else (some ((0 : Int), (2 : Int)))))))))))))))) := by kernel_rfl
noncomputable def alu_do_sp : FnSpec TT := ⟨[.val (.int .u8), .val (.int .u32), .val (.int .u32), .val (.int .u32)], [.val (.int .u32), .val (.int .i64)], fun x => alu_do BIG x.1 x.2.1 x.2.2.1 x.2.2.2⟩
theorem alu_do_ok : FnOk TT Try.prog 44 alu_do_sp := fnOk_of (C := alu_do_C) (by kernel_rfl) alu_do_env Try.func44 (show Try.f44.body = some (bodyOf Try.f44) by kernel_rfl) (by kernel_rfl) (by kernel_rfl) (cuts := alu_do_cuts) fun x y h => ⟨BIG, h⟩
noncomputable def alu_do_i15_g1_C : Ctx TT := ⟨tyOf, [], 2, [], layOf⟩
theorem alu_do_i15_g1_env : EnvOk TT Try.prog alu_do_i15_g1_C.E := envNil
def alu_do_i15_g1_cuts : List (Pos × Cut) := []
noncomputable def alu_do_i15_g1 (n : Nat) (x0 : Int) (x1 : Int) : Option (((Int × Unit) × (Int × Unit) × Unit) × (Int × Unit)) := topG TT Try.prog alu_do_i15_g1_C alu_do_i15_g1_cuts Try.f77 (bodyOf Try.f77) ⟨[], [], [], [], []⟩ [.ptr 0 31 [.val (.int .u64)], .ptr 0 31 [.val (.int .u64)]] [.blk 31 [.val (.int .u64)], .blk 31 [.val (.int .u64)]] [.val (.int .u64)] n ((x0, ()), (x1, ()), ())
theorem alu_do_i15_g1_eq (n : Nat) (x0 : Int) (x1 : Int) : alu_do_i15_g1 n x0 x1 =
  some (((x0, ()), (x1, ()), ()), (IntKind.u64.wrap (x0 + x1), ())) := by kernel_rfl
noncomputable def alu_do_i15_g1_sp : GSpec TT := ⟨[.ptr 0 31 [.val (.int .u64)], .ptr 0 31 [.val (.int .u64)]], [.blk 31 [.val (.int .u64)], .blk 31 [.val (.int .u64)]], [.val (.int .u64)], fun x => alu_do_i15_g1 BIG x.1.1 x.2.1.1⟩
theorem alu_do_i15_g1_ok : GOk TT Try.prog 77 alu_do_i15_g1_sp := gOk_of (C := alu_do_i15_g1_C) (cuts := alu_do_i15_g1_cuts) (by kernel_rfl) alu_do_i15_g1_env Try.func77 (show Try.f77.body = some (bodyOf Try.f77) by kernel_rfl) (by kernel_rfl) (by kernel_rfl) (by kernel_rfl) fun x y h => ⟨BIG, h⟩
noncomputable def alu_do_i16_g1_C : Ctx TT := ⟨tyOf, [], 2, [], layOf⟩
theorem alu_do_i16_g1_env : EnvOk TT Try.prog alu_do_i16_g1_C.E := envNil
def alu_do_i16_g1_cuts : List (Pos × Cut) := []
noncomputable def alu_do_i16_g1 (n : Nat) (x0 : Int) (x1 : Int) : Option (((Int × Unit) × (Int × Unit) × Unit) × (Int × Unit)) := topG TT Try.prog alu_do_i16_g1_C alu_do_i16_g1_cuts Try.f78 (bodyOf Try.f78) ⟨[], [], [], [], []⟩ [.ptr 0 31 [.val (.int .u64)], .ptr 0 31 [.val (.int .u64)]] [.blk 31 [.val (.int .u64)], .blk 31 [.val (.int .u64)]] [.val (.int .u64)] n ((x0, ()), (x1, ()), ())
theorem alu_do_i16_g1_eq (n : Nat) (x0 : Int) (x1 : Int) : alu_do_i16_g1 n x0 x1 =
  some (((x0, ()), (x1, ()), ()), (IntKind.u64.wrap (x0 - x1), ())) := by kernel_rfl
noncomputable def alu_do_i16_g1_sp : GSpec TT := ⟨[.ptr 0 31 [.val (.int .u64)], .ptr 0 31 [.val (.int .u64)]], [.blk 31 [.val (.int .u64)], .blk 31 [.val (.int .u64)]], [.val (.int .u64)], fun x => alu_do_i16_g1 BIG x.1.1 x.2.1.1⟩
theorem alu_do_i16_g1_ok : GOk TT Try.prog 78 alu_do_i16_g1_sp := gOk_of (C := alu_do_i16_g1_C) (cuts := alu_do_i16_g1_cuts) (by kernel_rfl) alu_do_i16_g1_env Try.func78 (show Try.f78.body = some (bodyOf Try.f78) by kernel_rfl) (by kernel_rfl) (by kernel_rfl) (by kernel_rfl) fun x y h => ⟨BIG, h⟩
noncomputable def alu_do_i17_g1_C : Ctx TT := ⟨tyOf, [], 2, [], layOf⟩
theorem alu_do_i17_g1_env : EnvOk TT Try.prog alu_do_i17_g1_C.E := envNil
def alu_do_i17_g1_cuts : List (Pos × Cut) := []
noncomputable def alu_do_i17_g1 (n : Nat) (x0 : Int) (x1 : Int) : Option (((Int × Unit) × (Int × Unit) × Unit) × (Int × Unit)) := topG TT Try.prog alu_do_i17_g1_C alu_do_i17_g1_cuts Try.f79 (bodyOf Try.f79) ⟨[], [], [], [], []⟩ [.ptr 0 31 [.val (.int .u64)], .ptr 0 31 [.val (.int .u64)]] [.blk 31 [.val (.int .u64)], .blk 31 [.val (.int .u64)]] [.val (.int .u64)] n ((x0, ()), (x1, ()), ())
theorem alu_do_i17_g1_eq (n : Nat) (x0 : Int) (x1 : Int) : alu_do_i17_g1 n x0 x1 =
  some (((x0, ()), (x1, ()), ()), (IntKind.u64.wrap (x0 * x1), ())) := by kernel_rfl
noncomputable def alu_do_i17_g1_sp : GSpec TT := ⟨[.ptr 0 31 [.val (.int .u64)], .ptr 0 31 [.val (.int .u64)]], [.blk 31 [.val (.int .u64)], .blk 31 [.val (.int .u64)]], [.val (.int .u64)], fun x => alu_do_i17_g1 BIG x.1.1 x.2.1.1⟩
theorem alu_do_i17_g1_ok : GOk TT Try.prog 79 alu_do_i17_g1_sp := gOk_of (C := alu_do_i17_g1_C) (cuts := alu_do_i17_g1_cuts) (by kernel_rfl) alu_do_i17_g1_env Try.func79 (show Try.f79.body = some (bodyOf Try.f79) by kernel_rfl) (by kernel_rfl) (by kernel_rfl) (by kernel_rfl) fun x y h => ⟨BIG, h⟩
noncomputable def alu_do_i18_g1_C : Ctx TT := ⟨tyOf, [], 2, [], layOf⟩
theorem alu_do_i18_g1_env : EnvOk TT Try.prog alu_do_i18_g1_C.E := envNil
def alu_do_i18_g1_cuts : List (Pos × Cut) := []
noncomputable def alu_do_i18_g1 (n : Nat) (x0 : Int) (x1 : Int) : Option (((Int × Unit) × (Int × Unit) × Unit) × (Int × Unit)) := topG TT Try.prog alu_do_i18_g1_C alu_do_i18_g1_cuts Try.f80 (bodyOf Try.f80) ⟨[], [], [], [], []⟩ [.ptr 0 31 [.val (.int .u64)], .ptr 0 31 [.val (.int .u64)]] [.blk 31 [.val (.int .u64)], .blk 31 [.val (.int .u64)]] [.val (.int .u64)] n ((x0, ()), (x1, ()), ())
theorem alu_do_i18_g1_eq (n : Nat) (x0 : Int) (x1 : Int) : alu_do_i18_g1 n x0 x1 =
  if x1 = 0 then none else (some (((x0, ()), (x1, ()), ()), (IntKind.u64.wrap (x0.tdiv x1), ()))) := by kernel_rfl
noncomputable def alu_do_i18_g1_sp : GSpec TT := ⟨[.ptr 0 31 [.val (.int .u64)], .ptr 0 31 [.val (.int .u64)]], [.blk 31 [.val (.int .u64)], .blk 31 [.val (.int .u64)]], [.val (.int .u64)], fun x => alu_do_i18_g1 BIG x.1.1 x.2.1.1⟩
theorem alu_do_i18_g1_ok : GOk TT Try.prog 80 alu_do_i18_g1_sp := gOk_of (C := alu_do_i18_g1_C) (cuts := alu_do_i18_g1_cuts) (by kernel_rfl) alu_do_i18_g1_env Try.func80 (show Try.f80.body = some (bodyOf Try.f80) by kernel_rfl) (by kernel_rfl) (by kernel_rfl) (by kernel_rfl) fun x y h => ⟨BIG, h⟩
noncomputable def alu_do_i19_g1_C : Ctx TT := ⟨tyOf, [], 2, [], layOf⟩
theorem alu_do_i19_g1_env : EnvOk TT Try.prog alu_do_i19_g1_C.E := envNil
def alu_do_i19_g1_cuts : List (Pos × Cut) := []
noncomputable def alu_do_i19_g1 (n : Nat) (x0 : Int) (x1 : Int) : Option (((Int × Unit) × (Int × Unit) × Unit) × (Int × Unit)) := topG TT Try.prog alu_do_i19_g1_C alu_do_i19_g1_cuts Try.f81 (bodyOf Try.f81) ⟨[], [], [], [], []⟩ [.ptr 0 31 [.val (.int .u64)], .ptr 0 31 [.val (.int .u64)]] [.blk 31 [.val (.int .u64)], .blk 31 [.val (.int .u64)]] [.val (.int .u64)] n ((x0, ()), (x1, ()), ())
theorem alu_do_i19_g1_eq (n : Nat) (x0 : Int) (x1 : Int) : alu_do_i19_g1 n x0 x1 =
  if x1 = 0 then none else (some (((x0, ()), (x1, ()), ()), (x0.tmod x1, ()))) := by kernel_rfl
noncomputable def alu_do_i19_g1_sp : GSpec TT := ⟨[.ptr 0 31 [.val (.int .u64)], .ptr 0 31 [.val (.int .u64)]], [.blk 31 [.val (.int .u64)], .blk 31 [.val (.int .u64)]], [.val (.int .u64)], fun x => alu_do_i19_g1 BIG x.1.1 x.2.1.1⟩
theorem alu_do_i19_g1_ok : GOk TT Try.prog 81 alu_do_i19_g1_sp := gOk_of (C := alu_do_i19_g1_C) (cuts := alu_do_i19_g1_cuts) (by kernel_rfl) alu_do_i19_g1_env Try.func81 (show Try.f81.body = some (bodyOf Try.f81) by kernel_rfl) (by kernel_rfl) (by kernel_rfl) (by kernel_rfl) fun x y h => ⟨BIG, h⟩
noncomputable def alu_do_i20_g1_C : Ctx TT := ⟨tyOf, [], 2, [], layOf⟩
theorem alu_do_i20_g1_env : EnvOk TT Try.prog alu_do_i20_g1_C.E := envNil
def alu_do_i20_g1_cuts : List (Pos × Cut) := []
noncomputable def alu_do_i20_g1 (n : Nat) (x0 : Int) (x1 : Int) : Option (((Int × Unit) × (Int × Unit) × Unit) × (Int × Unit)) := topG TT Try.prog alu_do_i20_g1_C alu_do_i20_g1_cuts Try.f82 (bodyOf Try.f82) ⟨[], [], [], [], []⟩ [.ptr 0 31 [.val (.int .u64)], .ptr 0 31 [.val (.int .u64)]] [.blk 31 [.val (.int .u64)], .blk 31 [.val (.int .u64)]] [.val (.int .u64)] n ((x0, ()), (x1, ()), ())
theorem alu_do_i20_g1_eq (n : Nat) (x0 : Int) (x1 : Int) : alu_do_i20_g1 n x0 x1 =
  some (((x0, ()), (x1, ()), ()), (bAnd .u64 x0 x1, ())) := by kernel_rfl
noncomputable def alu_do_i20_g1_sp : GSpec TT := ⟨[.ptr 0 31 [.val (.int .u64)], .ptr 0 31 [.val (.int .u64)]], [.blk 31 [.val (.int .u64)], .blk 31 [.val (.int .u64)]], [.val (.int .u64)], fun x => alu_do_i20_g1 BIG x.1.1 x.2.1.1⟩
theorem alu_do_i20_g1_ok : GOk TT Try.prog 82 alu_do_i20_g1_sp := gOk_of (C := alu_do_i20_g1_C) (cuts := alu_do_i20_g1_cuts) (by kernel_rfl) alu_do_i20_g1_env Try.func82 (show Try.f82.body = some (bodyOf Try.f82) by kernel_rfl) (by kernel_rfl) (by kernel_rfl) (by kernel_rfl) fun x y h => ⟨BIG, h⟩
noncomputable def alu_do_i21_g1_C : Ctx TT := ⟨tyOf, [], 2, [], layOf⟩
theorem alu_do_i21_g1_env : EnvOk TT Try.prog alu_do_i21_g1_C.E := envNil
def alu_do_i21_g1_cuts : List (Pos × Cut) := []
noncomputable def alu_do_i21_g1 (n : Nat) (x0 : Int) (x1 : Int) : Option (((Int × Unit) × (Int × Unit) × Unit) × (Int × Unit)) := topG TT Try.prog alu_do_i21_g1_C alu_do_i21_g1_cuts Try.f83 (bodyOf Try.f83) ⟨[], [], [], [], []⟩ [.ptr 0 31 [.val (.int .u64)], .ptr 0 31 [.val (.int .u64)]] [.blk 31 [.val (.int .u64)], .blk 31 [.val (.int .u64)]] [.val (.int .u64)] n ((x0, ()), (x1, ()), ())
theorem alu_do_i21_g1_eq (n : Nat) (x0 : Int) (x1 : Int) : alu_do_i21_g1 n x0 x1 =
  some (((x0, ()), (x1, ()), ()), (bOr .u64 x0 x1, ())) := by kernel_rfl
noncomputable def alu_do_i21_g1_sp : GSpec TT := ⟨[.ptr 0 31 [.val (.int .u64)], .ptr 0 31 [.val (.int .u64)]], [.blk 31 [.val (.int .u64)], .blk 31 [.val (.int .u64)]], [.val (.int .u64)], fun x => alu_do_i21_g1 BIG x.1.1 x.2.1.1⟩
theorem alu_do_i21_g1_ok : GOk TT Try.prog 83 alu_do_i21_g1_sp := gOk_of (C := alu_do_i21_g1_C) (cuts := alu_do_i21_g1_cuts) (by kernel_rfl) alu_do_i21_g1_env Try.func83 (show Try.f83.body = some (bodyOf Try.f83) by kernel_rfl) (by kernel_rfl) (by kernel_rfl) (by kernel_rfl) fun x y h => ⟨BIG, h⟩
noncomputable def alu_do_i22_g1_C : Ctx TT := ⟨tyOf, [], 2, [], layOf⟩
theorem alu_do_i22_g1_env : EnvOk TT Try.prog alu_do_i22_g1_C.E := envNil
def alu_do_i22_g1_cuts : List (Pos × Cut) := []
noncomputable def alu_do_i22_g1 (n : Nat) (x0 : Int) (x1 : Int) : Option (((Int × Unit) × (Int × Unit) × Unit) × (Int × Unit)) := topG TT Try.prog alu_do_i22_g1_C alu_do_i22_g1_cuts Try.f84 (bodyOf Try.f84) ⟨[], [], [], [], []⟩ [.ptr 0 31 [.val (.int .u64)], .ptr 0 31 [.val (.int .u64)]] [.blk 31 [.val (.int .u64)], .blk 31 [.val (.int .u64)]] [.val (.int .u64)] n ((x0, ()), (x1, ()), ())
theorem alu_do_i22_g1_eq (n : Nat) (x0 : Int) (x1 : Int) : alu_do_i22_g1 n x0 x1 =
  some (((x0, ()), (x1, ()), ()), (bXor .u64 x0 x1, ())) := by kernel_rfl
noncomputable def alu_do_i22_g1_sp : GSpec TT := ⟨[.ptr 0 31 [.val (.int .u64)], .ptr 0 31 [.val (.int .u64)]], [.blk 31 [.val (.int .u64)], .blk 31 [.val (.int .u64)]], [.val (.int .u64)], fun x => alu_do_i22_g1 BIG x.1.1 x.2.1.1⟩
theorem alu_do_i22_g1_ok : GOk TT Try.prog 84 alu_do_i22_g1_sp := gOk_of (C := alu_do_i22_g1_C) (cuts := alu_do_i22_g1_cuts) (by kernel_rfl) alu_do_i22_g1_env Try.func84 (show Try.f84.body = some (bodyOf Try.f84) by kernel_rfl) (by kernel_rfl) (by kernel_rfl) (by kernel_rfl) fun x y h => ⟨BIG, h⟩
noncomputable def alu_do_i23_g1_C : Ctx TT := ⟨tyOf, [], 3, [], layOf⟩
theorem alu_do_i23_g1_env : EnvOk TT Try.prog alu_do_i23_g1_C.E := envNil
def alu_do_i23_g1_cuts : List (Pos × Cut) := []
noncomputable def alu_do_i23_g1 (n : Nat) (x0 : Int) (x1 : Int) (x2 : Int) : Option (((Int × Unit) × (Int × Unit) × (Int × Unit) × Unit) × (Int × Unit)) := topG TT Try.prog alu_do_i23_g1_C alu_do_i23_g1_cuts Try.f85 (bodyOf Try.f85) ⟨[], [], [], [], []⟩ [.ptr 0 31 [.val (.int .u64)], .ptr 0 31 [.val (.int .u64)], .ptr 0 31 [.val (.int .u64)]] [.blk 31 [.val (.int .u64)], .blk 31 [.val (.int .u64)], .blk 31 [.val (.int .u64)]] [.val (.int .u64)] n ((x0, ()), (x1, ()), (x2, ()), ())
theorem alu_do_i23_g1_eq (n : Nat) (x0 : Int) (x1 : Int) (x2 : Int) : alu_do_i23_g1 n x0 x1 x2 =
  if x2 = 0 then none else (if x1.tmod x2 < 0 then none else (some (((x0, ()), (x1, ()), (x2, ()), ()), (sShl .u64 x0 (x1.tmod x2), ())))) := by kernel_rfl
noncomputable def alu_do_i23_g1_sp : GSpec TT := ⟨[.ptr 0 31 [.val (.int .u64)], .ptr 0 31 [.val (.int .u64)], .ptr 0 31 [.val (.int .u64)]], [.blk 31 [.val (.int .u64)], .blk 31 [.val (.int .u64)], .blk 31 [.val (.int .u64)]], [.val (.int .u64)], fun x => alu_do_i23_g1 BIG x.1.1 x.2.1.1 x.2.2.1.1⟩
theorem alu_do_i23_g1_ok : GOk TT Try.prog 85 alu_do_i23_g1_sp := gOk_of (C := alu_do_i23_g1_C) (cuts := alu_do_i23_g1_cuts) (by kernel_rfl) alu_do_i23_g1_env Try.func85 (show Try.f85.body = some (bodyOf Try.f85) by kernel_rfl) (by kernel_rfl) (by kernel_rfl) (by kernel_rfl) fun x y h => ⟨BIG, h⟩
noncomputable def alu_do_i24_g1_C : Ctx TT := ⟨tyOf, [], 3, [], layOf⟩
theorem alu_do_i24_g1_env : EnvOk TT Try.prog alu_do_i24_g1_C.E := envNil
def alu_do_i24_g1_cuts : List (Pos × Cut) := []
noncomputable def alu_do_i24_g1 (n : Nat) (x0 : Int) (x1 : Int) (x2 : Int) : Option (((Int × Unit) × (Int × Unit) × (Int × Unit) × Unit) × (Int × Unit)) := topG TT Try.prog alu_do_i24_g1_C alu_do_i24_g1_cuts Try.f86 (bodyOf Try.f86) ⟨[], [], [], [], []⟩ [.ptr 0 31 [.val (.int .u64)], .ptr 0 31 [.val (.int .u64)], .ptr 0 31 [.val (.int .u64)]] [.blk 31 [.val (.int .u64)], .blk 31 [.val (.int .u64)], .blk 31 [.val (.int .u64)]] [.val (.int .u64)] n ((x0, ()), (x1, ()), (x2, ()), ())
theorem alu_do_i24_g1_eq (n : Nat) (x0 : Int) (x1 : Int) (x2 : Int) : alu_do_i24_g1 n x0 x1 x2 =
  if x2 = 0 then none else (if x1.tmod x2 < 0 then none else (some (((x0, ()), (x1, ()), (x2, ()), ()), (sShr .u64 x0 (x1.tmod x2), ())))) := by kernel_rfl
noncomputable def alu_do_i24_g1_sp : GSpec TT := ⟨[.ptr 0 31 [.val (.int .u64)], .ptr 0 31 [.val (.int .u64)], .ptr 0 31 [.val (.int .u64)]], [.blk 31 [.val (.int .u64)], .blk 31 [.val (.int .u64)], .blk 31 [.val (.int .u64)]], [.val (.int .u64)], fun x => alu_do_i24_g1 BIG x.1.1 x.2.1.1 x.2.2.1.1⟩
theorem alu_do_i24_g1_ok : GOk TT Try.prog 86 alu_do_i24_g1_sp := gOk_of (C := alu_do_i24_g1_C) (cuts := alu_do_i24_g1_cuts) (by kernel_rfl) alu_do_i24_g1_env Try.func86 (show Try.f86.body = some (bodyOf Try.f86) by kernel_rfl) (by kernel_rfl) (by kernel_rfl) (by kernel_rfl) fun x y h => ⟨BIG, h⟩
noncomputable def alu_do_i25_g1_C : Ctx TT := ⟨tyOf, [], 3, [], layOf⟩
theorem alu_do_i25_g1_env : EnvOk TT Try.prog alu_do_i25_g1_C.E := envNil
def alu_do_i25_g1_cuts : List (Pos × Cut) := []
noncomputable def alu_do_i25_g1 (n : Nat) (x0 : Int) (x1 : Int) (x2 : Int) : Option (((Int × Unit) × (Int × Unit) × (Int × Unit) × Unit) × (Int × Unit)) := topG TT Try.prog alu_do_i25_g1_C alu_do_i25_g1_cuts Try.f87 (bodyOf Try.f87) ⟨[], [], [], [], []⟩ [.ptr 0 31 [.val (.int .u64)], .ptr 0 31 [.val (.int .u64)], .ptr 0 31 [.val (.int .u64)]] [.blk 31 [.val (.int .u64)], .blk 31 [.val (.int .u64)], .blk 31 [.val (.int .u64)]] [.val (.int .u64)] n ((x0, ()), (x1, ()), (x2, ()), ())
theorem alu_do_i25_g1_eq (n : Nat) (x0 : Int) (x1 : Int) (x2 : Int) : alu_do_i25_g1 n x0 x1 x2 =
  if x2 = 0 then none else (if x1.tmod x2 < 0 then none else (some (((x0, ()), (x1, ()), (x2, ()), ()), (IntKind.u64.wrap (sShr .i64 (IntKind.i64.wrap x0) (x1.tmod x2)), ())))) := by kernel_rfl
noncomputable def alu_do_i25_g1_sp : GSpec TT := ⟨[.ptr 0 31 [.val (.int .u64)], .ptr 0 31 [.val (.int .u64)], .ptr 0 31 [.val (.int .u64)]], [.blk 31 [.val (.int .u64)], .blk 31 [.val (.int .u64)], .blk 31 [.val (.int .u64)]], [.val (.int .u64)], fun x => alu_do_i25_g1 BIG x.1.1 x.2.1.1 x.2.2.1.1⟩
theorem alu_do_i25_g1_ok : GOk TT Try.prog 87 alu_do_i25_g1_sp := gOk_of (C := alu_do_i25_g1_C) (cuts := alu_do_i25_g1_cuts) (by kernel_rfl) alu_do_i25_g1_env Try.func87 (show Try.f87.body = some (bodyOf Try.f87) by kernel_rfl) (by kernel_rfl) (by kernel_rfl) (by kernel_rfl) fun x y h => ⟨BIG, h⟩
noncomputable def alu_do_i26_g1_C : Ctx TT := ⟨tyOf, [], 1, [], layOf⟩
theorem alu_do_i26_g1_env : EnvOk TT Try.prog alu_do_i26_g1_C.E := envNil
def alu_do_i26_g1_cuts : List (Pos × Cut) := []
noncomputable def alu_do_i26_g1 (n : Nat) (x0 : Int) : Option (((Int × Unit) × Unit) × (Int × Unit)) := topG TT Try.prog alu_do_i26_g1_C alu_do_i26_g1_cuts Try.f88 (bodyOf Try.f88) ⟨[], [], [], [], []⟩ [.ptr 0 31 [.val (.int .u64)]] [.blk 31 [.val (.int .u64)]] [.val (.int .u64)] n ((x0, ()), ())
theorem alu_do_i26_g1_eq (n : Nat) (x0 : Int) : alu_do_i26_g1 n x0 =
  some (((x0, ()), ()), (x0, ())) := by kernel_rfl
noncomputable def alu_do_i26_g1_sp : GSpec TT := ⟨[.ptr 0 31 [.val (.int .u64)]], [.blk 31 [.val (.int .u64)]], [.val (.int .u64)], fun x => alu_do_i26_g1 BIG x.1.1⟩
theorem alu_do_i26_g1_ok : GOk TT Try.prog 88 alu_do_i26_g1_sp := gOk_of (C := alu_do_i26_g1_C) (cuts := alu_do_i26_g1_cuts) (by kernel_rfl) alu_do_i26_g1_env Try.func88 (show Try.f88.body = some (bodyOf Try.f88) by kernel_rfl) (by kernel_rfl) (by kernel_rfl) (by kernel_rfl) fun x y h => ⟨BIG, h⟩
noncomputable def alu_do_i27_g1_C : Ctx TT := ⟨tyOf, [], 1, [], layOf⟩
theorem alu_do_i27_g1_env : EnvOk TT Try.prog alu_do_i27_g1_C.E := envNil
def alu_do_i27_g1_cuts : List (Pos × Cut) := []
noncomputable def alu_do_i27_g1 (n : Nat) (x0 : Int) : Option (((Int × Unit) × Unit) × (Int × Unit)) := topG TT Try.prog alu_do_i27_g1_C alu_do_i27_g1_cuts Try.f89 (bodyOf Try.f89) ⟨[], [], [], [], []⟩ [.ptr 0 31 [.val (.int .u64)]] [.blk 31 [.val (.int .u64)]] [.val (.int .u64)] n ((x0, ()), ())
theorem alu_do_i27_g1_eq (n : Nat) (x0 : Int) : alu_do_i27_g1 n x0 =
  some (((x0, ()), ()), (IntKind.u64.wrap (0 - x0), ())) := by kernel_rfl
noncomputable def alu_do_i27_g1_sp : GSpec TT := ⟨[.ptr 0 31 [.val (.int .u64)]], [.blk 31 [.val (.int .u64)]], [.val (.int .u64)], fun x => alu_do_i27_g1 BIG x.1.1⟩
theorem alu_do_i27_g1_ok : GOk TT Try.prog 89 alu_do_i27_g1_sp := gOk_of (C := alu_do_i27_g1_C) (cuts := alu_do_i27_g1_cuts) (by kernel_rfl) alu_do_i27_g1_env Try.func89 (show Try.f89.body = some (bodyOf Try.f89) by kernel_rfl) (by kernel_rfl) (by kernel_rfl) (by kernel_rfl) fun x y h => ⟨BIG, h⟩
noncomputable def alu_do_i14_C : Ctx TT := ⟨tyOf, [(77, alu_do_i15_g1_sp.toCall (noCall TT)), (78, alu_do_i16_g1_sp.toCall (noCall TT)), (79, alu_do_i17_g1_sp.toCall (noCall TT)), (80, alu_do_i18_g1_sp.toCall (noCall TT)), (81, alu_do_i19_g1_sp.toCall (noCall TT)), (82, alu_do_i20_g1_sp.toCall (noCall TT)), (83, alu_do_i21_g1_sp.toCall (noCall TT)), (84, alu_do_i22_g1_sp.toCall (noCall TT)), (85, alu_do_i23_g1_sp.toCall (noCall TT)), (86, alu_do_i24_g1_sp.toCall (noCall TT)), (87, alu_do_i25_g1_sp.toCall (noCall TT)), (88, alu_do_i26_g1_sp.toCall (noCall TT)), (89, alu_do_i27_g1_sp.toCall (noCall TT))], 0, [], layOf⟩
theorem alu_do_i14_env : EnvOk TT Try.prog alu_do_i14_C.E := envG (gCall_ok alu_do_i15_g1_ok (noCall_ok 77)) (envG (gCall_ok alu_do_i16_g1_ok (noCall_ok 78)) (envG (gCall_ok alu_do_i17_g1_ok (noCall_ok 79)) (envG (gCall_ok alu_do_i18_g1_ok (noCall_ok 80)) (envG (gCall_ok alu_do_i19_g1_ok (noCall_ok 81)) (envG (gCall_ok alu_do_i20_g1_ok (noCall_ok 82)) (envG (gCall_ok alu_do_i21_g1_ok (noCall_ok 83)) (envG (gCall_ok alu_do_i22_g1_ok (noCall_ok 84)) (envG (gCall_ok alu_do_i23_g1_ok (noCall_ok 85)) (envG (gCall_ok alu_do_i24_g1_ok (noCall_ok 86)) (envG (gCall_ok alu_do_i25_g1_ok (noCall_ok 87)) (envG (gCall_ok alu_do_i26_g1_ok (noCall_ok 88)) (envG (gCall_ok alu_do_i27_g1_ok (noCall_ok 89)) (envNil)))))))))))))
def alu_do_i14_cuts : List (Pos × Cut) := [([false, true], ⟨[0, 5, 6, 7, 21], [], false, []⟩)]
noncomputable def alu_do_i14 (n : Nat) (x0 : Int) (x1 : Int) (x2 : Int) (x3 : Int) : Option (Int × Int) := topF TT Try.prog alu_do_i14_C alu_do_i14_cuts Try.f45 (bodyOf Try.f45) ⟨[], []⟩ [.val (.int .u8), .val (.int .u64), .val (.int .u64), .val (.int .u64)] [.val (.int .u64), .val (.int .i64)] n (x0, x1, x2, x3)
noncomputable def alu_do_i14_J0 (n : Nat) (s0 : Int) (s21 : Bool) (b0_0 : Int) (b1_0 : Int) (b2_0 : Int) : Option (Int × Int) := cutF TT Try.prog alu_do_i14_C alu_do_i14_cuts Try.f45 (bodyOf Try.f45) ⟨[], []⟩ [.val (.int .u8), .val (.int .u64), .val (.int .u64), .val (.int .u64)] [.val (.int .u64), .val (.int .i64)] n [false, true] ⟨[(0, .cell ⟨.int .u8, s0⟩), (5, .ptr 0 0), (6, .ptr 1 0), (7, .ptr 2 0), (21, .cell ⟨.bool, s21⟩)], [.blk 31 [.cell ⟨.int .u64, b0_0⟩], .blk 31 [.cell ⟨.int .u64, b1_0⟩], .blk 31 [.cell ⟨.int .u64, b2_0⟩]]⟩
theorem alu_do_i14_eq (n : Nat) (x0 : Int) (x1 : Int) (x2 : Int) (x3 : Int) : alu_do_i14 n x0 x1 x2 x3 =
  forkB (x0 == (4 : Int))
  (alu_do_i14_J0 n x0 (x3 == (0 : Int)) x1 x2 x3)
  (forkB (x0 == (5 : Int))
   (alu_do_i14_J0 n x0 (x3 == (0 : Int)) x1 x2 x3)
   (alu_do_i14_J0 n x0 false x1 x2 x3)) := by kernel_rfl
theorem alu_do_i14_J0_eq (n : Nat) (s0 : Int) (s21 : Bool) (b0_0 : Int) (b1_0 : Int) (b2_0 : Int) : alu_do_i14_J0 (n + 1) s0 s21 b0_0 b1_0 b2_0 =
  forkB s21
  (some ((0 : Int), (113 : Int)))
  (if s0 = (1 : Int) then (obind (alu_do_i15_g1 BIG b1_0 b2_0) fun y1 =>
    some (y1.2.1, (0 : Int))) else (if s0 = (2 : Int) then (obind (alu_do_i16_g1 BIG b1_0 b2_0) fun y2 =>
     some (y2.2.1, (0 : Int))) else (if s0 = (3 : Int) then (obind (alu_do_i17_g1 BIG b1_0 b2_0) fun y3 =>
      some (y3.2.1, (0 : Int))) else (if s0 = (4 : Int) then (obind (alu_do_i18_g1 BIG b1_0 b2_0) fun y4 =>
       some (y4.2.1, (0 : Int))) else (if s0 = (5 : Int) then (obind (alu_do_i19_g1 BIG b1_0 b2_0) fun y5 =>
        some (y5.2.1, (0 : Int))) else (if s0 = (6 : Int) then (obind (alu_do_i20_g1 BIG b1_0 b2_0) fun y6 =>
         some (y6.2.1, (0 : Int))) else (if s0 = (7 : Int) then (obind (alu_do_i21_g1 BIG b1_0 b2_0) fun y7 =>
          some (y7.2.1, (0 : Int))) else (if s0 = (8 : Int) then (obind (alu_do_i22_g1 BIG b1_0 b2_0) fun y8 =>
           some (y8.2.1, (0 : Int))) else (if s0 = (9 : Int) then (obind (alu_do_i23_g1 BIG b1_0 b2_0 b0_0) fun y9 =>
            some (y9.2.1, (0 : Int))) else (if s0 = (10 : Int) then (obind (alu_do_i24_g1 BIG b1_0 b2_0 b0_0) fun y10 =>
             some (y10.2.1, (0 : Int))) else (if s0 = (11 : Int) then (obind (alu_do_i25_g1 BIG b1_0 b2_0 b0_0) fun y11 =>
              some (y11.2.1, (0 : Int))) else (if s0 = (12 : Int) then (obind (alu_do_i26_g1 BIG b2_0) fun y12 =>
               some (y12.2.1, (0 : Int))) else (if s0 = (13 : Int) then (obind (alu_do_i27_g1 BIG b1_0) fun y13 =>
                some (y13.2.1, (0 : Int))) else (some ((0 : Int), (2 : Int)))))))))))))))) := by kernel_rfl
noncomputable def alu_do_i14_sp : FnSpec TT := ⟨[.val (.int .u8), .val (.int .u64), .val (.int .u64), .val (.int .u64)], [.val (.int .u64), .val (.int .i64)], fun x => alu_do_i14 BIG x.1 x.2.1 x.2.2.1 x.2.2.2⟩
theorem alu_do_i14_ok : FnOk TT Try.prog 45 alu_do_i14_sp := fnOk_of (C := alu_do_i14_C) (by kernel_rfl) alu_do_i14_env Try.func45 (show Try.f45.body = some (bodyOf Try.f45) by kernel_rfl) (by kernel_rfl) (by kernel_rfl) (cuts := alu_do_i14_cuts) fun x y h => ⟨BIG, h⟩
noncomputable def aluDo_C : Ctx TT := ⟨tyOf, [(44, alu_do_sp.toCall), (45, alu_do_i14_sp.toCall)], 0, [], layOf⟩
theorem aluDo_env : EnvOk TT Try.prog aluDo_C.E := envG (fnCall_ok alu_do_ok) (envG (fnCall_ok alu_do_i14_ok) (envNil))
def aluDo_cuts : List (Pos × Cut) := []
noncomputable def aluDo (n : Nat) (x0 : Int) (x1 : Bool) (x2 : Int) (x3 : Int) : Option (Int × Int) := topF TT Try.prog aluDo_C aluDo_cuts Try.f35 (bodyOf Try.f35) ⟨[], []⟩ [.val (.int .u8), .val (.bool), .val (.int .u64), .val (.int .u64)] [.val (.int .u64), .val (.int .i64)] n (x0, x1, x2, x3)
theorem aluDo_eq (n : Nat) (x0 : Int) (x1 : Bool) (x2 : Int) (x3 : Int) : aluDo n x0 x1 x2 x3 =
  forkB x1
  (obind (alu_do BIG x0 (32 : Int) (IntKind.u32.wrap x2) (IntKind.u32.wrap x3)) fun y1 =>
   some (IntKind.u64.wrap y1.1, y1.2))
  (obind (alu_do_i14 BIG x0 (64 : Int) x2 x3) fun y2 =>
   some (y2.1, y2.2)) := by kernel_rfl
noncomputable def aluDo_sp : FnSpec TT := ⟨[.val (.int .u8), .val (.bool), .val (.int .u64), .val (.int .u64)], [.val (.int .u64), .val (.int .i64)], fun x => aluDo BIG x.1 x.2.1 x.2.2.1 x.2.2.2⟩
theorem aluDo_ok : FnOk TT Try.prog 35 aluDo_sp := fnOk_of (C := aluDo_C) (by kernel_rfl) aluDo_env Try.func35 (show Try.f35.body = some (bodyOf Try.f35) by kernel_rfl) (by kernel_rfl) (by kernel_rfl) (cuts := aluDo_cuts) fun x y h => ⟨BIG, h⟩
noncomputable def alu_is_C : Ctx TT := ⟨tyOf, [], 0, [], layOf⟩
theorem alu_is_env : EnvOk TT Try.prog alu_is_C.E := envNil
def alu_is_cuts : List (Pos × Cut) := []
noncomputable def alu_is (n : Nat) (x0 : Int) (x1 : Int) (x2 : Int) : Option (Bool × Int) := topF TT Try.prog alu_is_C alu_is_cuts Try.f51 (bodyOf Try.f51) ⟨[], []⟩ [.val (.int .u8), .val (.int .u32), .val (.int .u32)] [.val (.bool), .val (.int .i64)] n (x0, x1, x2)
theorem alu_is_eq (n : Nat) (x0 : Int) (x1 : Int) (x2 : Int) : alu_is n x0 x1 x2 =
  forkB (x0 == (17 : Int))
  (some (x1 == x2, (0 : Int)))
  (forkB (x0 == (18 : Int))
   (some (x1 != x2, (0 : Int)))
   (forkB (x0 == (19 : Int))
    (some (decide (x1 > x2), (0 : Int)))
    (forkB (x0 == (20 : Int))
     (some (decide (x1 ≥ x2), (0 : Int)))
     (forkB (x0 == (21 : Int))
      (some (decide (x1 < x2), (0 : Int)))
      (forkB (x0 == (22 : Int))
       (some (decide (x1 ≤ x2), (0 : Int)))
       (forkB (x0 == (23 : Int))
        (some (decide ((IntKind.i32.wrap x1) > (IntKind.i32.wrap x2)), (0 : Int)))
        (forkB (x0 == (24 : Int))
         (some (decide ((IntKind.i32.wrap x1) ≥ (IntKind.i32.wrap x2)), (0 : Int)))
         (forkB (x0 == (25 : Int))
          (some (decide ((IntKind.i32.wrap x1) < (IntKind.i32.wrap x2)), (0 : Int)))
          (forkB (x0 == (26 : Int))
           (some (decide ((IntKind.i32.wrap x1) ≤ (IntKind.i32.wrap x2)), (0 : Int)))
           (forkB (x0 == (27 : Int))
            (some ((bAnd .u32 x1 x2) != (0 : Int), (0 : Int)))
            (some (false, (2 : Int))))))))))))) := by kernel_rfl
noncomputable def alu_is_sp : FnSpec TT := ⟨[.val (.int .u8), .val (.int .u32), .val (.int .u32)], [.val (.bool), .val (.int .i64)], fun x => alu_is BIG x.1 x.2.1 x.2.2⟩
theorem alu_is_ok : FnOk TT Try.prog 51 alu_is_sp := fnOk_of (C := alu_is_C) (by kernel_rfl) alu_is_env Try.func51 (show Try.f51.body = some (bodyOf Try.f51) by kernel_rfl) (by kernel_rfl) (by kernel_rfl) (cuts := alu_is_cuts) fun x y h => ⟨BIG, h⟩
noncomputable def alu_is_i1_C : Ctx TT := ⟨tyOf, [], 0, [], layOf⟩
theorem alu_is_i1_env : EnvOk TT Try.prog alu_is_i1_C.E := envNil
def alu_is_i1_cuts : List (Pos × Cut) := []
noncomputable def alu_is_i1 (n : Nat) (x0 : Int) (x1 : Int) (x2 : Int) : Option (Bool × Int) := topF TT Try.prog alu_is_i1_C alu_is_i1_cuts Try.f52 (bodyOf Try.f52) ⟨[], []⟩ [.val (.int .u8), .val (.int .u64), .val (.int .u64)] [.val (.bool), .val (.int .i64)] n (x0, x1, x2)
theorem alu_is_i1_eq (n : Nat) (x0 : Int) (x1 : Int) (x2 : Int) : alu_is_i1 n x0 x1 x2 =
  forkB (x0 == (17 : Int))
  (some (x1 == x2, (0 : Int)))
  (forkB (x0 == (18 : Int))
   (some (x1 != x2, (0 : Int)))
   (forkB (x0 == (19 : Int))
    (some (decide (x1 > x2), (0 : Int)))
    (forkB (x0 == (20 : Int))
     (some (decide (x1 ≥ x2), (0 : Int)))
     (forkB (x0 == (21 : Int))
      (some (decide (x1 < x2), (0 : Int)))
      (forkB (x0 == (22 : Int))
       (some (decide (x1 ≤ x2), (0 : Int)))
       (forkB (x0 == (23 : Int))
        (some (decide ((IntKind.i64.wrap x1) > (IntKind.i64.wrap x2)), (0 : Int)))
        (forkB (x0 == (24 : Int))
         (some (decide ((IntKind.i64.wrap x1) ≥ (IntKind.i64.wrap x2)), (0 : Int)))
         (forkB (x0 == (25 : Int))
          (some (decide ((IntKind.i64.wrap x1) < (IntKind.i64.wrap x2)), (0 : Int)))
          (forkB (x0 == (26 : Int))
           (some (decide ((IntKind.i64.wrap x1) ≤ (IntKind.i64.wrap x2)), (0 : Int)))
           (forkB (x0 == (27 : Int))
            (some ((bAnd .u64 x1 x2) != (0 : Int), (0 : Int)))
            (some (false, (2 : Int))))))))))))) := by kernel_rfl
noncomputable def alu_is_i1_sp : FnSpec TT := ⟨[.val (.int .u8), .val (.int .u64), .val (.int .u64)], [.val (.bool), .val (.int .i64)], fun x => alu_is_i1 BIG x.1 x.2.1 x.2.2⟩
theorem alu_is_i1_ok : FnOk TT Try.prog 52 alu_is_i1_sp := fnOk_of (C := alu_is_i1_C) (by kernel_rfl) alu_is_i1_env Try.func52 (show Try.f52.body = some (bodyOf Try.f52) by kernel_rfl) (by kernel_rfl) (by kernel_rfl) (cuts := alu_is_i1_cuts) fun x y h => ⟨BIG, h⟩
noncomputable def aluIs_C : Ctx TT := ⟨tyOf, [(51, alu_is_sp.toCall), (52, alu_is_i1_sp.toCall)], 0, [], layOf⟩
theorem aluIs_env : EnvOk TT Try.prog aluIs_C.E := envG (fnCall_ok alu_is_ok) (envG (fnCall_ok alu_is_i1_ok) (envNil))
def aluIs_cuts : List (Pos × Cut) := []
noncomputable def aluIs (n : Nat) (x0 : Int) (x1 : Bool) (x2 : Int) (x3 : Int) : Option (Bool × Int) := topF TT Try.prog aluIs_C aluIs_cuts Try.f40 (bodyOf Try.f40) ⟨[], []⟩ [.val (.int .u8), .val (.bool), .val (.int .u64), .val (.int .u64)] [.val (.bool), .val (.int .i64)] n (x0, x1, x2, x3)
theorem aluIs_eq (n : Nat) (x0 : Int) (x1 : Bool) (x2 : Int) (x3 : Int) : aluIs n x0 x1 x2 x3 =
  forkB x1
  (obind (alu_is BIG x0 (IntKind.u32.wrap x2) (IntKind.u32.wrap x3)) fun y1 =>
   some (y1.1, y1.2))
  (obind (alu_is_i1 BIG x0 x2 x3) fun y2 =>
   some (y2.1, y2.2)) := by kernel_rfl
noncomputable def aluIs_sp : FnSpec TT := ⟨[.val (.int .u8), .val (.bool), .val (.int .u64), .val (.int .u64)], [.val (.bool), .val (.int .i64)], fun x => aluIs BIG x.1 x.2.1 x.2.2.1 x.2.2.2⟩
theorem aluIs_ok : FnOk TT Try.prog 40 aluIs_sp := fnOk_of (C := aluIs_C) (by kernel_rfl) aluIs_env Try.func40 (show Try.f40.body = some (bodyOf Try.f40) by kernel_rfl) (by kernel_rfl) (by kernel_rfl) (cuts := aluIs_cuts) fun x y h => ⟨BIG, h⟩
noncomputable def kitPick_C : Ctx TT := ⟨tyOf, [], 0, [], layOf⟩
theorem kitPick_env : EnvOk TT Try.prog kitPick_C.E := envNil
def kitPick_cuts : List (Pos × Cut) := []
noncomputable def kitPick (n : Nat) (x0 : Int) (x1 : Int) : Option (Int) := topF TT Try.prog kitPick_C kitPick_cuts Try.f7 (bodyOf Try.f7) ⟨[], []⟩ [.val (.int .i64), .val (.int .i64)] [.val (.int .i64)] n (x0, x1)
theorem kitPick_eq (n : Nat) (x0 : Int) (x1 : Int) : kitPick n x0 x1 =
  forkB (decide (x1 < (1 : Int)))
  (some (0 : Int))
  (if x1 = 0 then none else (forkB (decide ((x0.tmod x1) < (0 : Int)))
   (some (IntKind.i64.wrap ((x0.tmod x1) + x1)))
   (some (x0.tmod x1)))) := by kernel_rfl
noncomputable def kitPick_sp : FnSpec TT := ⟨[.val (.int .i64), .val (.int .i64)], [.val (.int .i64)], fun x => kitPick BIG x.1 x.2⟩
theorem kitPick_ok : FnOk TT Try.prog 7 kitPick_sp := fnOk_of (C := kitPick_C) (by kernel_rfl) kitPick_env Try.func7 (show Try.f7.body = some (bodyOf Try.f7) by kernel_rfl) (by kernel_rfl) (by kernel_rfl) (cuts := kitPick_cuts) fun x y h => ⟨BIG, h⟩
end Go.X
