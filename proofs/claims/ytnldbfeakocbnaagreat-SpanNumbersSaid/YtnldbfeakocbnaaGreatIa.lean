/- What the functions of numbers compute. -/
import Derived.Test.YtnldbfeakocbnaaGreatTb
namespace Go.X
open Go.RowKit Go.V Go.Proofs
noncomputable def alu_do_i1_g1_C : Ctx TT := ⟨tyOf, [], 2, [], layOf⟩
theorem alu_do_i1_g1_env : EnvOk TT Tryz.prog alu_do_i1_g1_C.E := envNil
def alu_do_i1_g1_cuts : List (Pos × Cut) := []
noncomputable def alu_do_i1_g1 (n : Nat) (x0 : Int) (x1 : Int) : Option (((Int × Unit) × (Int × Unit) × Unit) × (Int × Unit)) := topG TT Tryz.prog alu_do_i1_g1_C alu_do_i1_g1_cuts Tryz.f85 (bodyOf Tryz.f85) ⟨[], [], [], [], []⟩ [.ptr 0 87 [.val (.int .u32)], .ptr 0 87 [.val (.int .u32)]] [.blk 87 [.val (.int .u32)], .blk 87 [.val (.int .u32)]] [.val (.int .u32)] n ((x0, ()), (x1, ()), ())
theorem alu_do_i1_g1_eq (n : Nat) (x0 : Int) (x1 : Int) : alu_do_i1_g1 n x0 x1 =
  some (((x0, ()), (x1, ()), ()), (IntKind.u32.wrap (x0 + x1), ())) := by kernel_rfl
noncomputable def alu_do_i1_g1_sp : GSpec TT := ⟨[.ptr 0 87 [.val (.int .u32)], .ptr 0 87 [.val (.int .u32)]], [.blk 87 [.val (.int .u32)], .blk 87 [.val (.int .u32)]], [.val (.int .u32)], fun x => alu_do_i1_g1 BIG x.1.1 x.2.1.1⟩
theorem alu_do_i1_g1_ok : GOk TT Tryz.prog 85 alu_do_i1_g1_sp := gOk_of (C := alu_do_i1_g1_C) (cuts := alu_do_i1_g1_cuts) (by kernel_rfl) alu_do_i1_g1_env Tryz.func85 (show Tryz.f85.body = some (bodyOf Tryz.f85) by kernel_rfl) (by kernel_rfl) (by kernel_rfl) (by kernel_rfl) fun x y h => ⟨BIG, h⟩
noncomputable def alu_do_i2_g1_C : Ctx TT := ⟨tyOf, [], 2, [], layOf⟩
theorem alu_do_i2_g1_env : EnvOk TT Tryz.prog alu_do_i2_g1_C.E := envNil
def alu_do_i2_g1_cuts : List (Pos × Cut) := []
noncomputable def alu_do_i2_g1 (n : Nat) (x0 : Int) (x1 : Int) : Option (((Int × Unit) × (Int × Unit) × Unit) × (Int × Unit)) := topG TT Tryz.prog alu_do_i2_g1_C alu_do_i2_g1_cuts Tryz.f86 (bodyOf Tryz.f86) ⟨[], [], [], [], []⟩ [.ptr 0 87 [.val (.int .u32)], .ptr 0 87 [.val (.int .u32)]] [.blk 87 [.val (.int .u32)], .blk 87 [.val (.int .u32)]] [.val (.int .u32)] n ((x0, ()), (x1, ()), ())
theorem alu_do_i2_g1_eq (n : Nat) (x0 : Int) (x1 : Int) : alu_do_i2_g1 n x0 x1 =
  some (((x0, ()), (x1, ()), ()), (IntKind.u32.wrap (x0 - x1), ())) := by kernel_rfl
noncomputable def alu_do_i2_g1_sp : GSpec TT := ⟨[.ptr 0 87 [.val (.int .u32)], .ptr 0 87 [.val (.int .u32)]], [.blk 87 [.val (.int .u32)], .blk 87 [.val (.int .u32)]], [.val (.int .u32)], fun x => alu_do_i2_g1 BIG x.1.1 x.2.1.1⟩
theorem alu_do_i2_g1_ok : GOk TT Tryz.prog 86 alu_do_i2_g1_sp := gOk_of (C := alu_do_i2_g1_C) (cuts := alu_do_i2_g1_cuts) (by kernel_rfl) alu_do_i2_g1_env Tryz.func86 (show Tryz.f86.body = some (bodyOf Tryz.f86) by kernel_rfl) (by kernel_rfl) (by kernel_rfl) (by kernel_rfl) fun x y h => ⟨BIG, h⟩
noncomputable def alu_do_i3_g1_C : Ctx TT := ⟨tyOf, [], 2, [], layOf⟩
theorem alu_do_i3_g1_env : EnvOk TT Tryz.prog alu_do_i3_g1_C.E := envNil
def alu_do_i3_g1_cuts : List (Pos × Cut) := []
noncomputable def alu_do_i3_g1 (n : Nat) (x0 : Int) (x1 : Int) : Option (((Int × Unit) × (Int × Unit) × Unit) × (Int × Unit)) := topG TT Tryz.prog alu_do_i3_g1_C alu_do_i3_g1_cuts Tryz.f87 (bodyOf Tryz.f87) ⟨[], [], [], [], []⟩ [.ptr 0 87 [.val (.int .u32)], .ptr 0 87 [.val (.int .u32)]] [.blk 87 [.val (.int .u32)], .blk 87 [.val (.int .u32)]] [.val (.int .u32)] n ((x0, ()), (x1, ()), ())
theorem alu_do_i3_g1_eq (n : Nat) (x0 : Int) (x1 : Int) : alu_do_i3_g1 n x0 x1 =
  some (((x0, ()), (x1, ()), ()), (IntKind.u32.wrap (x0 * x1), ())) := by kernel_rfl
noncomputable def alu_do_i3_g1_sp : GSpec TT := ⟨[.ptr 0 87 [.val (.int .u32)], .ptr 0 87 [.val (.int .u32)]], [.blk 87 [.val (.int .u32)], .blk 87 [.val (.int .u32)]], [.val (.int .u32)], fun x => alu_do_i3_g1 BIG x.1.1 x.2.1.1⟩
theorem alu_do_i3_g1_ok : GOk TT Tryz.prog 87 alu_do_i3_g1_sp := gOk_of (C := alu_do_i3_g1_C) (cuts := alu_do_i3_g1_cuts) (by kernel_rfl) alu_do_i3_g1_env Tryz.func87 (show Tryz.f87.body = some (bodyOf Tryz.f87) by kernel_rfl) (by kernel_rfl) (by kernel_rfl) (by kernel_rfl) fun x y h => ⟨BIG, h⟩
noncomputable def alu_do_i4_g1_C : Ctx TT := ⟨tyOf, [], 2, [], layOf⟩
theorem alu_do_i4_g1_env : EnvOk TT Tryz.prog alu_do_i4_g1_C.E := envNil
def alu_do_i4_g1_cuts : List (Pos × Cut) := []
noncomputable def alu_do_i4_g1 (n : Nat) (x0 : Int) (x1 : Int) : Option (((Int × Unit) × (Int × Unit) × Unit) × (Int × Unit)) := topG TT Tryz.prog alu_do_i4_g1_C alu_do_i4_g1_cuts Tryz.f88 (bodyOf Tryz.f88) ⟨[], [], [], [], []⟩ [.ptr 0 87 [.val (.int .u32)], .ptr 0 87 [.val (.int .u32)]] [.blk 87 [.val (.int .u32)], .blk 87 [.val (.int .u32)]] [.val (.int .u32)] n ((x0, ()), (x1, ()), ())
theorem alu_do_i4_g1_eq (n : Nat) (x0 : Int) (x1 : Int) : alu_do_i4_g1 n x0 x1 =
  if x1 = 0 then none else (some (((x0, ()), (x1, ()), ()), (IntKind.u32.wrap (x0.tdiv x1), ()))) := by kernel_rfl
noncomputable def alu_do_i4_g1_sp : GSpec TT := ⟨[.ptr 0 87 [.val (.int .u32)], .ptr 0 87 [.val (.int .u32)]], [.blk 87 [.val (.int .u32)], .blk 87 [.val (.int .u32)]], [.val (.int .u32)], fun x => alu_do_i4_g1 BIG x.1.1 x.2.1.1⟩
theorem alu_do_i4_g1_ok : GOk TT Tryz.prog 88 alu_do_i4_g1_sp := gOk_of (C := alu_do_i4_g1_C) (cuts := alu_do_i4_g1_cuts) (by kernel_rfl) alu_do_i4_g1_env Tryz.func88 (show Tryz.f88.body = some (bodyOf Tryz.f88) by kernel_rfl) (by kernel_rfl) (by kernel_rfl) (by kernel_rfl) fun x y h => ⟨BIG, h⟩
noncomputable def alu_do_i5_g1_C : Ctx TT := ⟨tyOf, [], 2, [], layOf⟩
theorem alu_do_i5_g1_env : EnvOk TT Tryz.prog alu_do_i5_g1_C.E := envNil
def alu_do_i5_g1_cuts : List (Pos × Cut) := []
noncomputable def alu_do_i5_g1 (n : Nat) (x0 : Int) (x1 : Int) : Option (((Int × Unit) × (Int × Unit) × Unit) × (Int × Unit)) := topG TT Tryz.prog alu_do_i5_g1_C alu_do_i5_g1_cuts Tryz.f89 (bodyOf Tryz.f89) ⟨[], [], [], [], []⟩ [.ptr 0 87 [.val (.int .u32)], .ptr 0 87 [.val (.int .u32)]] [.blk 87 [.val (.int .u32)], .blk 87 [.val (.int .u32)]] [.val (.int .u32)] n ((x0, ()), (x1, ()), ())
theorem alu_do_i5_g1_eq (n : Nat) (x0 : Int) (x1 : Int) : alu_do_i5_g1 n x0 x1 =
  if x1 = 0 then none else (some (((x0, ()), (x1, ()), ()), (x0.tmod x1, ()))) := by kernel_rfl
noncomputable def alu_do_i5_g1_sp : GSpec TT := ⟨[.ptr 0 87 [.val (.int .u32)], .ptr 0 87 [.val (.int .u32)]], [.blk 87 [.val (.int .u32)], .blk 87 [.val (.int .u32)]], [.val (.int .u32)], fun x => alu_do_i5_g1 BIG x.1.1 x.2.1.1⟩
theorem alu_do_i5_g1_ok : GOk TT Tryz.prog 89 alu_do_i5_g1_sp := gOk_of (C := alu_do_i5_g1_C) (cuts := alu_do_i5_g1_cuts) (by kernel_rfl) alu_do_i5_g1_env Tryz.func89 (show Tryz.f89.body = some (bodyOf Tryz.f89) by kernel_rfl) (by kernel_rfl) (by kernel_rfl) (by kernel_rfl) fun x y h => ⟨BIG, h⟩
noncomputable def alu_do_i6_g1_C : Ctx TT := ⟨tyOf, [], 2, [], layOf⟩
theorem alu_do_i6_g1_env : EnvOk TT Tryz.prog alu_do_i6_g1_C.E := envNil
def alu_do_i6_g1_cuts : List (Pos × Cut) := []
noncomputable def alu_do_i6_g1 (n : Nat) (x0 : Int) (x1 : Int) : Option (((Int × Unit) × (Int × Unit) × Unit) × (Int × Unit)) := topG TT Tryz.prog alu_do_i6_g1_C alu_do_i6_g1_cuts Tryz.f90 (bodyOf Tryz.f90) ⟨[], [], [], [], []⟩ [.ptr 0 87 [.val (.int .u32)], .ptr 0 87 [.val (.int .u32)]] [.blk 87 [.val (.int .u32)], .blk 87 [.val (.int .u32)]] [.val (.int .u32)] n ((x0, ()), (x1, ()), ())
theorem alu_do_i6_g1_eq (n : Nat) (x0 : Int) (x1 : Int) : alu_do_i6_g1 n x0 x1 =
  some (((x0, ()), (x1, ()), ()), (bAnd .u32 x0 x1, ())) := by kernel_rfl
noncomputable def alu_do_i6_g1_sp : GSpec TT := ⟨[.ptr 0 87 [.val (.int .u32)], .ptr 0 87 [.val (.int .u32)]], [.blk 87 [.val (.int .u32)], .blk 87 [.val (.int .u32)]], [.val (.int .u32)], fun x => alu_do_i6_g1 BIG x.1.1 x.2.1.1⟩
theorem alu_do_i6_g1_ok : GOk TT Tryz.prog 90 alu_do_i6_g1_sp := gOk_of (C := alu_do_i6_g1_C) (cuts := alu_do_i6_g1_cuts) (by kernel_rfl) alu_do_i6_g1_env Tryz.func90 (show Tryz.f90.body = some (bodyOf Tryz.f90) by kernel_rfl) (by kernel_rfl) (by kernel_rfl) (by kernel_rfl) fun x y h => ⟨BIG, h⟩
noncomputable def alu_do_i7_g1_C : Ctx TT := ⟨tyOf, [], 2, [], layOf⟩
theorem alu_do_i7_g1_env : EnvOk TT Tryz.prog alu_do_i7_g1_C.E := envNil
def alu_do_i7_g1_cuts : List (Pos × Cut) := []
noncomputable def alu_do_i7_g1 (n : Nat) (x0 : Int) (x1 : Int) : Option (((Int × Unit) × (Int × Unit) × Unit) × (Int × Unit)) := topG TT Tryz.prog alu_do_i7_g1_C alu_do_i7_g1_cuts Tryz.f91 (bodyOf Tryz.f91) ⟨[], [], [], [], []⟩ [.ptr 0 87 [.val (.int .u32)], .ptr 0 87 [.val (.int .u32)]] [.blk 87 [.val (.int .u32)], .blk 87 [.val (.int .u32)]] [.val (.int .u32)] n ((x0, ()), (x1, ()), ())
theorem alu_do_i7_g1_eq (n : Nat) (x0 : Int) (x1 : Int) : alu_do_i7_g1 n x0 x1 =
  some (((x0, ()), (x1, ()), ()), (bOr .u32 x0 x1, ())) := by kernel_rfl
noncomputable def alu_do_i7_g1_sp : GSpec TT := ⟨[.ptr 0 87 [.val (.int .u32)], .ptr 0 87 [.val (.int .u32)]], [.blk 87 [.val (.int .u32)], .blk 87 [.val (.int .u32)]], [.val (.int .u32)], fun x => alu_do_i7_g1 BIG x.1.1 x.2.1.1⟩
theorem alu_do_i7_g1_ok : GOk TT Tryz.prog 91 alu_do_i7_g1_sp := gOk_of (C := alu_do_i7_g1_C) (cuts := alu_do_i7_g1_cuts) (by kernel_rfl) alu_do_i7_g1_env Tryz.func91 (show Tryz.f91.body = some (bodyOf Tryz.f91) by kernel_rfl) (by kernel_rfl) (by kernel_rfl) (by kernel_rfl) fun x y h => ⟨BIG, h⟩
noncomputable def alu_do_i8_g1_C : Ctx TT := ⟨tyOf, [], 2, [], layOf⟩
theorem alu_do_i8_g1_env : EnvOk TT Tryz.prog alu_do_i8_g1_C.E := envNil
def alu_do_i8_g1_cuts : List (Pos × Cut) := []
noncomputable def alu_do_i8_g1 (n : Nat) (x0 : Int) (x1 : Int) : Option (((Int × Unit) × (Int × Unit) × Unit) × (Int × Unit)) := topG TT Tryz.prog alu_do_i8_g1_C alu_do_i8_g1_cuts Tryz.f92 (bodyOf Tryz.f92) ⟨[], [], [], [], []⟩ [.ptr 0 87 [.val (.int .u32)], .ptr 0 87 [.val (.int .u32)]] [.blk 87 [.val (.int .u32)], .blk 87 [.val (.int .u32)]] [.val (.int .u32)] n ((x0, ()), (x1, ()), ())
theorem alu_do_i8_g1_eq (n : Nat) (x0 : Int) (x1 : Int) : alu_do_i8_g1 n x0 x1 =
  some (((x0, ()), (x1, ()), ()), (bXor .u32 x0 x1, ())) := by kernel_rfl
noncomputable def alu_do_i8_g1_sp : GSpec TT := ⟨[.ptr 0 87 [.val (.int .u32)], .ptr 0 87 [.val (.int .u32)]], [.blk 87 [.val (.int .u32)], .blk 87 [.val (.int .u32)]], [.val (.int .u32)], fun x => alu_do_i8_g1 BIG x.1.1 x.2.1.1⟩
theorem alu_do_i8_g1_ok : GOk TT Tryz.prog 92 alu_do_i8_g1_sp := gOk_of (C := alu_do_i8_g1_C) (cuts := alu_do_i8_g1_cuts) (by kernel_rfl) alu_do_i8_g1_env Tryz.func92 (show Tryz.f92.body = some (bodyOf Tryz.f92) by kernel_rfl) (by kernel_rfl) (by kernel_rfl) (by kernel_rfl) fun x y h => ⟨BIG, h⟩
noncomputable def alu_do_i9_g1_C : Ctx TT := ⟨tyOf, [], 3, [], layOf⟩
theorem alu_do_i9_g1_env : EnvOk TT Tryz.prog alu_do_i9_g1_C.E := envNil
def alu_do_i9_g1_cuts : List (Pos × Cut) := []
noncomputable def alu_do_i9_g1 (n : Nat) (x0 : Int) (x1 : Int) (x2 : Int) : Option (((Int × Unit) × (Int × Unit) × (Int × Unit) × Unit) × (Int × Unit)) := topG TT Tryz.prog alu_do_i9_g1_C alu_do_i9_g1_cuts Tryz.f93 (bodyOf Tryz.f93) ⟨[], [], [], [], []⟩ [.ptr 0 87 [.val (.int .u32)], .ptr 0 87 [.val (.int .u32)], .ptr 0 87 [.val (.int .u32)]] [.blk 87 [.val (.int .u32)], .blk 87 [.val (.int .u32)], .blk 87 [.val (.int .u32)]] [.val (.int .u32)] n ((x0, ()), (x1, ()), (x2, ()), ())
theorem alu_do_i9_g1_eq (n : Nat) (x0 : Int) (x1 : Int) (x2 : Int) : alu_do_i9_g1 n x0 x1 x2 =
  if x2 = 0 then none else (if x1.tmod x2 < 0 then none else (some (((x0, ()), (x1, ()), (x2, ()), ()), (sShl .u32 x0 (x1.tmod x2), ())))) := by kernel_rfl
noncomputable def alu_do_i9_g1_sp : GSpec TT := ⟨[.ptr 0 87 [.val (.int .u32)], .ptr 0 87 [.val (.int .u32)], .ptr 0 87 [.val (.int .u32)]], [.blk 87 [.val (.int .u32)], .blk 87 [.val (.int .u32)], .blk 87 [.val (.int .u32)]], [.val (.int .u32)], fun x => alu_do_i9_g1 BIG x.1.1 x.2.1.1 x.2.2.1.1⟩
theorem alu_do_i9_g1_ok : GOk TT Tryz.prog 93 alu_do_i9_g1_sp := gOk_of (C := alu_do_i9_g1_C) (cuts := alu_do_i9_g1_cuts) (by kernel_rfl) alu_do_i9_g1_env Tryz.func93 (show Tryz.f93.body = some (bodyOf Tryz.f93) by kernel_rfl) (by kernel_rfl) (by kernel_rfl) (by kernel_rfl) fun x y h => ⟨BIG, h⟩
noncomputable def alu_do_i10_g1_C : Ctx TT := ⟨tyOf, [], 3, [], layOf⟩
theorem alu_do_i10_g1_env : EnvOk TT Tryz.prog alu_do_i10_g1_C.E := envNil
def alu_do_i10_g1_cuts : List (Pos × Cut) := []
noncomputable def alu_do_i10_g1 (n : Nat) (x0 : Int) (x1 : Int) (x2 : Int) : Option (((Int × Unit) × (Int × Unit) × (Int × Unit) × Unit) × (Int × Unit)) := topG TT Tryz.prog alu_do_i10_g1_C alu_do_i10_g1_cuts Tryz.f94 (bodyOf Tryz.f94) ⟨[], [], [], [], []⟩ [.ptr 0 87 [.val (.int .u32)], .ptr 0 87 [.val (.int .u32)], .ptr 0 87 [.val (.int .u32)]] [.blk 87 [.val (.int .u32)], .blk 87 [.val (.int .u32)], .blk 87 [.val (.int .u32)]] [.val (.int .u32)] n ((x0, ()), (x1, ()), (x2, ()), ())
theorem alu_do_i10_g1_eq (n : Nat) (x0 : Int) (x1 : Int) (x2 : Int) : alu_do_i10_g1 n x0 x1 x2 =
  if x2 = 0 then none else (if x1.tmod x2 < 0 then none else (some (((x0, ()), (x1, ()), (x2, ()), ()), (sShr .u32 x0 (x1.tmod x2), ())))) := by kernel_rfl
noncomputable def alu_do_i10_g1_sp : GSpec TT := ⟨[.ptr 0 87 [.val (.int .u32)], .ptr 0 87 [.val (.int .u32)], .ptr 0 87 [.val (.int .u32)]], [.blk 87 [.val (.int .u32)], .blk 87 [.val (.int .u32)], .blk 87 [.val (.int .u32)]], [.val (.int .u32)], fun x => alu_do_i10_g1 BIG x.1.1 x.2.1.1 x.2.2.1.1⟩
theorem alu_do_i10_g1_ok : GOk TT Tryz.prog 94 alu_do_i10_g1_sp := gOk_of (C := alu_do_i10_g1_C) (cuts := alu_do_i10_g1_cuts) (by kernel_rfl) alu_do_i10_g1_env Tryz.func94 (show Tryz.f94.body = some (bodyOf Tryz.f94) by kernel_rfl) (by kernel_rfl) (by kernel_rfl) (by kernel_rfl) fun x y h => ⟨BIG, h⟩
noncomputable def alu_do_i11_g1_C : Ctx TT := ⟨tyOf, [], 3, [], layOf⟩
theorem alu_do_i11_g1_env : EnvOk TT Tryz.prog alu_do_i11_g1_C.E := envNil
def alu_do_i11_g1_cuts : List (Pos × Cut) := []
noncomputable def alu_do_i11_g1 (n : Nat) (x0 : Int) (x1 : Int) (x2 : Int) : Option (((Int × Unit) × (Int × Unit) × (Int × Unit) × Unit) × (Int × Unit)) := topG TT Tryz.prog alu_do_i11_g1_C alu_do_i11_g1_cuts Tryz.f95 (bodyOf Tryz.f95) ⟨[], [], [], [], []⟩ [.ptr 0 87 [.val (.int .u32)], .ptr 0 87 [.val (.int .u32)], .ptr 0 87 [.val (.int .u32)]] [.blk 87 [.val (.int .u32)], .blk 87 [.val (.int .u32)], .blk 87 [.val (.int .u32)]] [.val (.int .u32)] n ((x0, ()), (x1, ()), (x2, ()), ())
theorem alu_do_i11_g1_eq (n : Nat) (x0 : Int) (x1 : Int) (x2 : Int) : alu_do_i11_g1 n x0 x1 x2 =
  if x2 = 0 then none else (if x1.tmod x2 < 0 then none else (some (((x0, ()), (x1, ()), (x2, ()), ()), (IntKind.u32.wrap (sShr .i32 (IntKind.i32.wrap x0) (x1.tmod x2)), ())))) := by kernel_rfl
noncomputable def alu_do_i11_g1_sp : GSpec TT := ⟨[.ptr 0 87 [.val (.int .u32)], .ptr 0 87 [.val (.int .u32)], .ptr 0 87 [.val (.int .u32)]], [.blk 87 [.val (.int .u32)], .blk 87 [.val (.int .u32)], .blk 87 [.val (.int .u32)]], [.val (.int .u32)], fun x => alu_do_i11_g1 BIG x.1.1 x.2.1.1 x.2.2.1.1⟩
theorem alu_do_i11_g1_ok : GOk TT Tryz.prog 95 alu_do_i11_g1_sp := gOk_of (C := alu_do_i11_g1_C) (cuts := alu_do_i11_g1_cuts) (by kernel_rfl) alu_do_i11_g1_env Tryz.func95 (show Tryz.f95.body = some (bodyOf Tryz.f95) by kernel_rfl) (by kernel_rfl) (by kernel_rfl) (by kernel_rfl) fun x y h => ⟨BIG, h⟩
noncomputable def alu_do_i12_g1_C : Ctx TT := ⟨tyOf, [], 1, [], layOf⟩
theorem alu_do_i12_g1_env : EnvOk TT Tryz.prog alu_do_i12_g1_C.E := envNil
def alu_do_i12_g1_cuts : List (Pos × Cut) := []
noncomputable def alu_do_i12_g1 (n : Nat) (x0 : Int) : Option (((Int × Unit) × Unit) × (Int × Unit)) := topG TT Tryz.prog alu_do_i12_g1_C alu_do_i12_g1_cuts Tryz.f96 (bodyOf Tryz.f96) ⟨[], [], [], [], []⟩ [.ptr 0 87 [.val (.int .u32)]] [.blk 87 [.val (.int .u32)]] [.val (.int .u32)] n ((x0, ()), ())
theorem alu_do_i12_g1_eq (n : Nat) (x0 : Int) : alu_do_i12_g1 n x0 =
  some (((x0, ()), ()), (x0, ())) := by kernel_rfl
noncomputable def alu_do_i12_g1_sp : GSpec TT := ⟨[.ptr 0 87 [.val (.int .u32)]], [.blk 87 [.val (.int .u32)]], [.val (.int .u32)], fun x => alu_do_i12_g1 BIG x.1.1⟩
theorem alu_do_i12_g1_ok : GOk TT Tryz.prog 96 alu_do_i12_g1_sp := gOk_of (C := alu_do_i12_g1_C) (cuts := alu_do_i12_g1_cuts) (by kernel_rfl) alu_do_i12_g1_env Tryz.func96 (show Tryz.f96.body = some (bodyOf Tryz.f96) by kernel_rfl) (by kernel_rfl) (by kernel_rfl) (by kernel_rfl) fun x y h => ⟨BIG, h⟩
noncomputable def alu_do_i13_g1_C : Ctx TT := ⟨tyOf, [], 1, [], layOf⟩
theorem alu_do_i13_g1_env : EnvOk TT Tryz.prog alu_do_i13_g1_C.E := envNil
def alu_do_i13_g1_cuts : List (Pos × Cut) := []
noncomputable def alu_do_i13_g1 (n : Nat) (x0 : Int) : Option (((Int × Unit) × Unit) × (Int × Unit)) := topG TT Tryz.prog alu_do_i13_g1_C alu_do_i13_g1_cuts Tryz.f97 (bodyOf Tryz.f97) ⟨[], [], [], [], []⟩ [.ptr 0 87 [.val (.int .u32)]] [.blk 87 [.val (.int .u32)]] [.val (.int .u32)] n ((x0, ()), ())
theorem alu_do_i13_g1_eq (n : Nat) (x0 : Int) : alu_do_i13_g1 n x0 =
  some (((x0, ()), ()), (IntKind.u32.wrap (0 - x0), ())) := by kernel_rfl
noncomputable def alu_do_i13_g1_sp : GSpec TT := ⟨[.ptr 0 87 [.val (.int .u32)]], [.blk 87 [.val (.int .u32)]], [.val (.int .u32)], fun x => alu_do_i13_g1 BIG x.1.1⟩
theorem alu_do_i13_g1_ok : GOk TT Tryz.prog 97 alu_do_i13_g1_sp := gOk_of (C := alu_do_i13_g1_C) (cuts := alu_do_i13_g1_cuts) (by kernel_rfl) alu_do_i13_g1_env Tryz.func97 (show Tryz.f97.body = some (bodyOf Tryz.f97) by kernel_rfl) (by kernel_rfl) (by kernel_rfl) (by kernel_rfl) fun x y h => ⟨BIG, h⟩
noncomputable def alu_do_C : Ctx TT := ⟨tyOf, [(85, alu_do_i1_g1_sp.toCall (noCall TT)), (86, alu_do_i2_g1_sp.toCall (noCall TT)), (87, alu_do_i3_g1_sp.toCall (noCall TT)), (88, alu_do_i4_g1_sp.toCall (noCall TT)), (89, alu_do_i5_g1_sp.toCall (noCall TT)), (90, alu_do_i6_g1_sp.toCall (noCall TT)), (91, alu_do_i7_g1_sp.toCall (noCall TT)), (92, alu_do_i8_g1_sp.toCall (noCall TT)), (93, alu_do_i9_g1_sp.toCall (noCall TT)), (94, alu_do_i10_g1_sp.toCall (noCall TT)), (95, alu_do_i11_g1_sp.toCall (noCall TT)), (96, alu_do_i12_g1_sp.toCall (noCall TT)), (97, alu_do_i13_g1_sp.toCall (noCall TT))], 0, [], layOf⟩
theorem alu_do_env : EnvOk TT Tryz.prog alu_do_C.E := envG (gCall_ok alu_do_i1_g1_ok (noCall_ok 85)) (envG (gCall_ok alu_do_i2_g1_ok (noCall_ok 86)) (envG (gCall_ok alu_do_i3_g1_ok (noCall_ok 87)) (envG (gCall_ok alu_do_i4_g1_ok (noCall_ok 88)) (envG (gCall_ok alu_do_i5_g1_ok (noCall_ok 89)) (envG (gCall_ok alu_do_i6_g1_ok (noCall_ok 90)) (envG (gCall_ok alu_do_i7_g1_ok (noCall_ok 91)) (envG (gCall_ok alu_do_i8_g1_ok (noCall_ok 92)) (envG (gCall_ok alu_do_i9_g1_ok (noCall_ok 93)) (envG (gCall_ok alu_do_i10_g1_ok (noCall_ok 94)) (envG (gCall_ok alu_do_i11_g1_ok (noCall_ok 95)) (envG (gCall_ok alu_do_i12_g1_ok (noCall_ok 96)) (envG (gCall_ok alu_do_i13_g1_ok (noCall_ok 97)) (envNil)))))))))))))
def alu_do_cuts : List (Pos × Cut) := [([false, true], ⟨[0, 5, 6, 7, 21], [], false, []⟩)]
noncomputable def alu_do (n : Nat) (x0 : Int) (x1 : Int) (x2 : Int) (x3 : Int) : Option (Int × Int) := topF TT Tryz.prog alu_do_C alu_do_cuts Tryz.f83 (bodyOf Tryz.f83) ⟨[], []⟩ [.val (.int .u8), .val (.int .u32), .val (.int .u32), .val (.int .u32)] [.val (.int .u32), .val (.int .i64)] n (x0, x1, x2, x3)
noncomputable def alu_do_J0 (n : Nat) (s0 : Int) (s21 : Bool) (b0_0 : Int) (b1_0 : Int) (b2_0 : Int) : Option (Int × Int) := cutF TT Tryz.prog alu_do_C alu_do_cuts Tryz.f83 (bodyOf Tryz.f83) ⟨[], []⟩ [.val (.int .u8), .val (.int .u32), .val (.int .u32), .val (.int .u32)] [.val (.int .u32), .val (.int .i64)] n [false, true] ⟨[(0, .cell ⟨.int .u8, s0⟩), (5, .ptr 0 0), (6, .ptr 1 0), (7, .ptr 2 0), (21, .cell ⟨.bool, s21⟩)], [.blk 87 [.cell ⟨.int .u32, b0_0⟩], .blk 87 [.cell ⟨.int .u32, b1_0⟩], .blk 87 [.cell ⟨.int .u32, b2_0⟩]]⟩
theorem alu_do_eq (n : Nat) (x0 : Int) (x1 : Int) (x2 : Int) (x3 : Int) : alu_do n x0 x1 x2 x3 =
  forkB (x0 == (4 : Int))
  (alu_do_J0 n x0 (x3 == (0 : Int)) x1 x2 x3)
  (forkB (x0 == (5 : Int))
   (alu_do_J0 n x0 (x3 == (0 : Int)) x1 x2 x3)
   (alu_do_J0 n x0 false x1 x2 x3)) := by kernel_rfl
theorem alu_do_J0_eq (n : Nat) (s0 : Int) (s21 : Bool) (b0_0 : Int) (b1_0 : Int) (b2_0 : Int) : alu_do_J0 (n + 1) s0 s21 b0_0 b1_0 b2_0 =
  forkB s21
  (some ((0 : Int), (113 : Int)))
  (if s0 = (1 : Int) then (obind (alu_do_i1_g1 BIG b1_0 b2_0) fun y1 =>
    some (y1.2.1, (0 : Int))) else (if s0 = (2 : Int) then (obind (alu_do_i2_g1 BIG b1_0 b2_0) fun y2 =>
     some (y2.2.1, (0 : Int))) else (if s0 = (3 : Int) then (obind (alu_do_i3_g1 BIG b1_0 b2_0) fun y3 =>
      some (y3.2.1, (0 : Int))) else (if s0 = (4 : Int) then (obind (alu_do_i4_g1 BIG b1_0 b2_0) fun y4 =>
       some (y4.2.1, (0 : Int))) else (if s0 = (5 : Int) then (obind (alu_do_i5_g1 BIG b1_0 b2_0) fun y5 =>
        some (y5.2.1, (0 : Int))) else (if s0 = (6 : Int) then (obind (alu_do_i6_g1 BIG b1_0 b2_0) fun y6 =>
         some (y6.2.1, (0 : Int))) else (if s0 = (7 : Int) then (obind (alu_do_i7_g1 BIG b1_0 b2_0) fun y7 =>
          some (y7.2.1, (0 : Int))) else (if s0 = (8 : Int) then (obind (alu_do_i8_g1 BIG b1_0 b2_0) fun y8 =>
           some (y8.2.1, (0 : Int))) else (if s0 = (9 : Int) then (obind (alu_do_i9_g1 BIG b1_0 b2_0 b0_0) fun y9 =>
            some (y9.2.1, (0 : Int))) else (if s0 = (10 : Int) then (obind (alu_do_i10_g1 BIG b1_0 b2_0 b0_0) fun y10 =>
             some (y10.2.1, (0 : Int))) else (if s0 = (11 : Int) then (obind (alu_do_i11_g1 BIG b1_0 b2_0 b0_0) fun y11 =>
              some (y11.2.1, (0 : Int))) else (if s0 = (12 : Int) then (obind (alu_do_i12_g1 BIG b2_0) fun y12 =>
               some (y12.2.1, (0 : Int))) else (if s0 = (13 : Int) then (obind (alu_do_i13_g1 BIG b1_0) fun y13 =>
                some (y13.2.1, (0 : Int))) else (some ((0 : Int), (2 : Int)))))))))))))))) := by kernel_rfl
noncomputable def alu_do_sp : FnSpec TT := ⟨[.val (.int .u8), .val (.int .u32), .val (.int .u32), .val (.int .u32)], [.val (.int .u32), .val (.int .i64)], fun x => alu_do BIG x.1 x.2.1 x.2.2.1 x.2.2.2⟩
theorem alu_do_ok : FnOk TT Tryz.prog 83 alu_do_sp := fnOk_of (C := alu_do_C) (by kernel_rfl) alu_do_env Tryz.func83 (show Tryz.f83.body = some (bodyOf Tryz.f83) by kernel_rfl) (by kernel_rfl) (by kernel_rfl) (cuts := alu_do_cuts) fun x y h => ⟨BIG, h⟩
noncomputable def alu_do_i15_g1_C : Ctx TT := ⟨tyOf, [], 2, [], layOf⟩
theorem alu_do_i15_g1_env : EnvOk TT Tryz.prog alu_do_i15_g1_C.E := envNil
def alu_do_i15_g1_cuts : List (Pos × Cut) := []
noncomputable def alu_do_i15_g1 (n : Nat) (x0 : Int) (x1 : Int) : Option (((Int × Unit) × (Int × Unit) × Unit) × (Int × Unit)) := topG TT Tryz.prog alu_do_i15_g1_C alu_do_i15_g1_cuts Tryz.f98 (bodyOf Tryz.f98) ⟨[], [], [], [], []⟩ [.ptr 0 25 [.val (.int .u64)], .ptr 0 25 [.val (.int .u64)]] [.blk 25 [.val (.int .u64)], .blk 25 [.val (.int .u64)]] [.val (.int .u64)] n ((x0, ()), (x1, ()), ())
theorem alu_do_i15_g1_eq (n : Nat) (x0 : Int) (x1 : Int) : alu_do_i15_g1 n x0 x1 =
  some (((x0, ()), (x1, ()), ()), (IntKind.u64.wrap (x0 + x1), ())) := by kernel_rfl
noncomputable def alu_do_i15_g1_sp : GSpec TT := ⟨[.ptr 0 25 [.val (.int .u64)], .ptr 0 25 [.val (.int .u64)]], [.blk 25 [.val (.int .u64)], .blk 25 [.val (.int .u64)]], [.val (.int .u64)], fun x => alu_do_i15_g1 BIG x.1.1 x.2.1.1⟩
theorem alu_do_i15_g1_ok : GOk TT Tryz.prog 98 alu_do_i15_g1_sp := gOk_of (C := alu_do_i15_g1_C) (cuts := alu_do_i15_g1_cuts) (by kernel_rfl) alu_do_i15_g1_env Tryz.func98 (show Tryz.f98.body = some (bodyOf Tryz.f98) by kernel_rfl) (by kernel_rfl) (by kernel_rfl) (by kernel_rfl) fun x y h => ⟨BIG, h⟩
noncomputable def alu_do_i16_g1_C : Ctx TT := ⟨tyOf, [], 2, [], layOf⟩
theorem alu_do_i16_g1_env : EnvOk TT Tryz.prog alu_do_i16_g1_C.E := envNil
def alu_do_i16_g1_cuts : List (Pos × Cut) := []
noncomputable def alu_do_i16_g1 (n : Nat) (x0 : Int) (x1 : Int) : Option (((Int × Unit) × (Int × Unit) × Unit) × (Int × Unit)) := topG TT Tryz.prog alu_do_i16_g1_C alu_do_i16_g1_cuts Tryz.f99 (bodyOf Tryz.f99) ⟨[], [], [], [], []⟩ [.ptr 0 25 [.val (.int .u64)], .ptr 0 25 [.val (.int .u64)]] [.blk 25 [.val (.int .u64)], .blk 25 [.val (.int .u64)]] [.val (.int .u64)] n ((x0, ()), (x1, ()), ())
theorem alu_do_i16_g1_eq (n : Nat) (x0 : Int) (x1 : Int) : alu_do_i16_g1 n x0 x1 =
  some (((x0, ()), (x1, ()), ()), (IntKind.u64.wrap (x0 - x1), ())) := by kernel_rfl
noncomputable def alu_do_i16_g1_sp : GSpec TT := ⟨[.ptr 0 25 [.val (.int .u64)], .ptr 0 25 [.val (.int .u64)]], [.blk 25 [.val (.int .u64)], .blk 25 [.val (.int .u64)]], [.val (.int .u64)], fun x => alu_do_i16_g1 BIG x.1.1 x.2.1.1⟩
theorem alu_do_i16_g1_ok : GOk TT Tryz.prog 99 alu_do_i16_g1_sp := gOk_of (C := alu_do_i16_g1_C) (cuts := alu_do_i16_g1_cuts) (by kernel_rfl) alu_do_i16_g1_env Tryz.func99 (show Tryz.f99.body = some (bodyOf Tryz.f99) by kernel_rfl) (by kernel_rfl) (by kernel_rfl) (by kernel_rfl) fun x y h => ⟨BIG, h⟩
noncomputable def alu_do_i17_g1_C : Ctx TT := ⟨tyOf, [], 2, [], layOf⟩
theorem alu_do_i17_g1_env : EnvOk TT Tryz.prog alu_do_i17_g1_C.E := envNil
def alu_do_i17_g1_cuts : List (Pos × Cut) := []
noncomputable def alu_do_i17_g1 (n : Nat) (x0 : Int) (x1 : Int) : Option (((Int × Unit) × (Int × Unit) × Unit) × (Int × Unit)) := topG TT Tryz.prog alu_do_i17_g1_C alu_do_i17_g1_cuts Tryz.f100 (bodyOf Tryz.f100) ⟨[], [], [], [], []⟩ [.ptr 0 25 [.val (.int .u64)], .ptr 0 25 [.val (.int .u64)]] [.blk 25 [.val (.int .u64)], .blk 25 [.val (.int .u64)]] [.val (.int .u64)] n ((x0, ()), (x1, ()), ())
theorem alu_do_i17_g1_eq (n : Nat) (x0 : Int) (x1 : Int) : alu_do_i17_g1 n x0 x1 =
  some (((x0, ()), (x1, ()), ()), (IntKind.u64.wrap (x0 * x1), ())) := by kernel_rfl
noncomputable def alu_do_i17_g1_sp : GSpec TT := ⟨[.ptr 0 25 [.val (.int .u64)], .ptr 0 25 [.val (.int .u64)]], [.blk 25 [.val (.int .u64)], .blk 25 [.val (.int .u64)]], [.val (.int .u64)], fun x => alu_do_i17_g1 BIG x.1.1 x.2.1.1⟩
theorem alu_do_i17_g1_ok : GOk TT Tryz.prog 100 alu_do_i17_g1_sp := gOk_of (C := alu_do_i17_g1_C) (cuts := alu_do_i17_g1_cuts) (by kernel_rfl) alu_do_i17_g1_env Tryz.func100 (show Tryz.f100.body = some (bodyOf Tryz.f100) by kernel_rfl) (by kernel_rfl) (by kernel_rfl) (by kernel_rfl) fun x y h => ⟨BIG, h⟩
noncomputable def alu_do_i18_g1_C : Ctx TT := ⟨tyOf, [], 2, [], layOf⟩
theorem alu_do_i18_g1_env : EnvOk TT Tryz.prog alu_do_i18_g1_C.E := envNil
def alu_do_i18_g1_cuts : List (Pos × Cut) := []
noncomputable def alu_do_i18_g1 (n : Nat) (x0 : Int) (x1 : Int) : Option (((Int × Unit) × (Int × Unit) × Unit) × (Int × Unit)) := topG TT Tryz.prog alu_do_i18_g1_C alu_do_i18_g1_cuts Tryz.f101 (bodyOf Tryz.f101) ⟨[], [], [], [], []⟩ [.ptr 0 25 [.val (.int .u64)], .ptr 0 25 [.val (.int .u64)]] [.blk 25 [.val (.int .u64)], .blk 25 [.val (.int .u64)]] [.val (.int .u64)] n ((x0, ()), (x1, ()), ())
theorem alu_do_i18_g1_eq (n : Nat) (x0 : Int) (x1 : Int) : alu_do_i18_g1 n x0 x1 =
  if x1 = 0 then none else (some (((x0, ()), (x1, ()), ()), (IntKind.u64.wrap (x0.tdiv x1), ()))) := by kernel_rfl
noncomputable def alu_do_i18_g1_sp : GSpec TT := ⟨[.ptr 0 25 [.val (.int .u64)], .ptr 0 25 [.val (.int .u64)]], [.blk 25 [.val (.int .u64)], .blk 25 [.val (.int .u64)]], [.val (.int .u64)], fun x => alu_do_i18_g1 BIG x.1.1 x.2.1.1⟩
theorem alu_do_i18_g1_ok : GOk TT Tryz.prog 101 alu_do_i18_g1_sp := gOk_of (C := alu_do_i18_g1_C) (cuts := alu_do_i18_g1_cuts) (by kernel_rfl) alu_do_i18_g1_env Tryz.func101 (show Tryz.f101.body = some (bodyOf Tryz.f101) by kernel_rfl) (by kernel_rfl) (by kernel_rfl) (by kernel_rfl) fun x y h => ⟨BIG, h⟩
noncomputable def alu_do_i19_g1_C : Ctx TT := ⟨tyOf, [], 2, [], layOf⟩
theorem alu_do_i19_g1_env : EnvOk TT Tryz.prog alu_do_i19_g1_C.E := envNil
def alu_do_i19_g1_cuts : List (Pos × Cut) := []
noncomputable def alu_do_i19_g1 (n : Nat) (x0 : Int) (x1 : Int) : Option (((Int × Unit) × (Int × Unit) × Unit) × (Int × Unit)) := topG TT Tryz.prog alu_do_i19_g1_C alu_do_i19_g1_cuts Tryz.f102 (bodyOf Tryz.f102) ⟨[], [], [], [], []⟩ [.ptr 0 25 [.val (.int .u64)], .ptr 0 25 [.val (.int .u64)]] [.blk 25 [.val (.int .u64)], .blk 25 [.val (.int .u64)]] [.val (.int .u64)] n ((x0, ()), (x1, ()), ())
theorem alu_do_i19_g1_eq (n : Nat) (x0 : Int) (x1 : Int) : alu_do_i19_g1 n x0 x1 =
  if x1 = 0 then none else (some (((x0, ()), (x1, ()), ()), (x0.tmod x1, ()))) := by kernel_rfl
noncomputable def alu_do_i19_g1_sp : GSpec TT := ⟨[.ptr 0 25 [.val (.int .u64)], .ptr 0 25 [.val (.int .u64)]], [.blk 25 [.val (.int .u64)], .blk 25 [.val (.int .u64)]], [.val (.int .u64)], fun x => alu_do_i19_g1 BIG x.1.1 x.2.1.1⟩
theorem alu_do_i19_g1_ok : GOk TT Tryz.prog 102 alu_do_i19_g1_sp := gOk_of (C := alu_do_i19_g1_C) (cuts := alu_do_i19_g1_cuts) (by kernel_rfl) alu_do_i19_g1_env Tryz.func102 (show Tryz.f102.body = some (bodyOf Tryz.f102) by kernel_rfl) (by kernel_rfl) (by kernel_rfl) (by kernel_rfl) fun x y h => ⟨BIG, h⟩
noncomputable def alu_do_i20_g1_C : Ctx TT := ⟨tyOf, [], 2, [], layOf⟩
theorem alu_do_i20_g1_env : EnvOk TT Tryz.prog alu_do_i20_g1_C.E := envNil
def alu_do_i20_g1_cuts : List (Pos × Cut) := []
noncomputable def alu_do_i20_g1 (n : Nat) (x0 : Int) (x1 : Int) : Option (((Int × Unit) × (Int × Unit) × Unit) × (Int × Unit)) := topG TT Tryz.prog alu_do_i20_g1_C alu_do_i20_g1_cuts Tryz.f103 (bodyOf Tryz.f103) ⟨[], [], [], [], []⟩ [.ptr 0 25 [.val (.int .u64)], .ptr 0 25 [.val (.int .u64)]] [.blk 25 [.val (.int .u64)], .blk 25 [.val (.int .u64)]] [.val (.int .u64)] n ((x0, ()), (x1, ()), ())
theorem alu_do_i20_g1_eq (n : Nat) (x0 : Int) (x1 : Int) : alu_do_i20_g1 n x0 x1 =
  some (((x0, ()), (x1, ()), ()), (bAnd .u64 x0 x1, ())) := by kernel_rfl
noncomputable def alu_do_i20_g1_sp : GSpec TT := ⟨[.ptr 0 25 [.val (.int .u64)], .ptr 0 25 [.val (.int .u64)]], [.blk 25 [.val (.int .u64)], .blk 25 [.val (.int .u64)]], [.val (.int .u64)], fun x => alu_do_i20_g1 BIG x.1.1 x.2.1.1⟩
theorem alu_do_i20_g1_ok : GOk TT Tryz.prog 103 alu_do_i20_g1_sp := gOk_of (C := alu_do_i20_g1_C) (cuts := alu_do_i20_g1_cuts) (by kernel_rfl) alu_do_i20_g1_env Tryz.func103 (show Tryz.f103.body = some (bodyOf Tryz.f103) by kernel_rfl) (by kernel_rfl) (by kernel_rfl) (by kernel_rfl) fun x y h => ⟨BIG, h⟩
noncomputable def alu_do_i21_g1_C : Ctx TT := ⟨tyOf, [], 2, [], layOf⟩
theorem alu_do_i21_g1_env : EnvOk TT Tryz.prog alu_do_i21_g1_C.E := envNil
def alu_do_i21_g1_cuts : List (Pos × Cut) := []
noncomputable def alu_do_i21_g1 (n : Nat) (x0 : Int) (x1 : Int) : Option (((Int × Unit) × (Int × Unit) × Unit) × (Int × Unit)) := topG TT Tryz.prog alu_do_i21_g1_C alu_do_i21_g1_cuts Tryz.f104 (bodyOf Tryz.f104) ⟨[], [], [], [], []⟩ [.ptr 0 25 [.val (.int .u64)], .ptr 0 25 [.val (.int .u64)]] [.blk 25 [.val (.int .u64)], .blk 25 [.val (.int .u64)]] [.val (.int .u64)] n ((x0, ()), (x1, ()), ())
theorem alu_do_i21_g1_eq (n : Nat) (x0 : Int) (x1 : Int) : alu_do_i21_g1 n x0 x1 =
  some (((x0, ()), (x1, ()), ()), (bOr .u64 x0 x1, ())) := by kernel_rfl
noncomputable def alu_do_i21_g1_sp : GSpec TT := ⟨[.ptr 0 25 [.val (.int .u64)], .ptr 0 25 [.val (.int .u64)]], [.blk 25 [.val (.int .u64)], .blk 25 [.val (.int .u64)]], [.val (.int .u64)], fun x => alu_do_i21_g1 BIG x.1.1 x.2.1.1⟩
theorem alu_do_i21_g1_ok : GOk TT Tryz.prog 104 alu_do_i21_g1_sp := gOk_of (C := alu_do_i21_g1_C) (cuts := alu_do_i21_g1_cuts) (by kernel_rfl) alu_do_i21_g1_env Tryz.func104 (show Tryz.f104.body = some (bodyOf Tryz.f104) by kernel_rfl) (by kernel_rfl) (by kernel_rfl) (by kernel_rfl) fun x y h => ⟨BIG, h⟩
noncomputable def alu_do_i22_g1_C : Ctx TT := ⟨tyOf, [], 2, [], layOf⟩
theorem alu_do_i22_g1_env : EnvOk TT Tryz.prog alu_do_i22_g1_C.E := envNil
def alu_do_i22_g1_cuts : List (Pos × Cut) := []
noncomputable def alu_do_i22_g1 (n : Nat) (x0 : Int) (x1 : Int) : Option (((Int × Unit) × (Int × Unit) × Unit) × (Int × Unit)) := topG TT Tryz.prog alu_do_i22_g1_C alu_do_i22_g1_cuts Tryz.f105 (bodyOf Tryz.f105) ⟨[], [], [], [], []⟩ [.ptr 0 25 [.val (.int .u64)], .ptr 0 25 [.val (.int .u64)]] [.blk 25 [.val (.int .u64)], .blk 25 [.val (.int .u64)]] [.val (.int .u64)] n ((x0, ()), (x1, ()), ())
theorem alu_do_i22_g1_eq (n : Nat) (x0 : Int) (x1 : Int) : alu_do_i22_g1 n x0 x1 =
  some (((x0, ()), (x1, ()), ()), (bXor .u64 x0 x1, ())) := by kernel_rfl
noncomputable def alu_do_i22_g1_sp : GSpec TT := ⟨[.ptr 0 25 [.val (.int .u64)], .ptr 0 25 [.val (.int .u64)]], [.blk 25 [.val (.int .u64)], .blk 25 [.val (.int .u64)]], [.val (.int .u64)], fun x => alu_do_i22_g1 BIG x.1.1 x.2.1.1⟩
theorem alu_do_i22_g1_ok : GOk TT Tryz.prog 105 alu_do_i22_g1_sp := gOk_of (C := alu_do_i22_g1_C) (cuts := alu_do_i22_g1_cuts) (by kernel_rfl) alu_do_i22_g1_env Tryz.func105 (show Tryz.f105.body = some (bodyOf Tryz.f105) by kernel_rfl) (by kernel_rfl) (by kernel_rfl) (by kernel_rfl) fun x y h => ⟨BIG, h⟩
noncomputable def alu_do_i23_g1_C : Ctx TT := ⟨tyOf, [], 3, [], layOf⟩
theorem alu_do_i23_g1_env : EnvOk TT Tryz.prog alu_do_i23_g1_C.E := envNil
def alu_do_i23_g1_cuts : List (Pos × Cut) := []
noncomputable def alu_do_i23_g1 (n : Nat) (x0 : Int) (x1 : Int) (x2 : Int) : Option (((Int × Unit) × (Int × Unit) × (Int × Unit) × Unit) × (Int × Unit)) := topG TT Tryz.prog alu_do_i23_g1_C alu_do_i23_g1_cuts Tryz.f106 (bodyOf Tryz.f106) ⟨[], [], [], [], []⟩ [.ptr 0 25 [.val (.int .u64)], .ptr 0 25 [.val (.int .u64)], .ptr 0 25 [.val (.int .u64)]] [.blk 25 [.val (.int .u64)], .blk 25 [.val (.int .u64)], .blk 25 [.val (.int .u64)]] [.val (.int .u64)] n ((x0, ()), (x1, ()), (x2, ()), ())
theorem alu_do_i23_g1_eq (n : Nat) (x0 : Int) (x1 : Int) (x2 : Int) : alu_do_i23_g1 n x0 x1 x2 =
  if x2 = 0 then none else (if x1.tmod x2 < 0 then none else (some (((x0, ()), (x1, ()), (x2, ()), ()), (sShl .u64 x0 (x1.tmod x2), ())))) := by kernel_rfl
noncomputable def alu_do_i23_g1_sp : GSpec TT := ⟨[.ptr 0 25 [.val (.int .u64)], .ptr 0 25 [.val (.int .u64)], .ptr 0 25 [.val (.int .u64)]], [.blk 25 [.val (.int .u64)], .blk 25 [.val (.int .u64)], .blk 25 [.val (.int .u64)]], [.val (.int .u64)], fun x => alu_do_i23_g1 BIG x.1.1 x.2.1.1 x.2.2.1.1⟩
theorem alu_do_i23_g1_ok : GOk TT Tryz.prog 106 alu_do_i23_g1_sp := gOk_of (C := alu_do_i23_g1_C) (cuts := alu_do_i23_g1_cuts) (by kernel_rfl) alu_do_i23_g1_env Tryz.func106 (show Tryz.f106.body = some (bodyOf Tryz.f106) by kernel_rfl) (by kernel_rfl) (by kernel_rfl) (by kernel_rfl) fun x y h => ⟨BIG, h⟩
noncomputable def alu_do_i24_g1_C : Ctx TT := ⟨tyOf, [], 3, [], layOf⟩
theorem alu_do_i24_g1_env : EnvOk TT Tryz.prog alu_do_i24_g1_C.E := envNil
def alu_do_i24_g1_cuts : List (Pos × Cut) := []
noncomputable def alu_do_i24_g1 (n : Nat) (x0 : Int) (x1 : Int) (x2 : Int) : Option (((Int × Unit) × (Int × Unit) × (Int × Unit) × Unit) × (Int × Unit)) := topG TT Tryz.prog alu_do_i24_g1_C alu_do_i24_g1_cuts Tryz.f107 (bodyOf Tryz.f107) ⟨[], [], [], [], []⟩ [.ptr 0 25 [.val (.int .u64)], .ptr 0 25 [.val (.int .u64)], .ptr 0 25 [.val (.int .u64)]] [.blk 25 [.val (.int .u64)], .blk 25 [.val (.int .u64)], .blk 25 [.val (.int .u64)]] [.val (.int .u64)] n ((x0, ()), (x1, ()), (x2, ()), ())
theorem alu_do_i24_g1_eq (n : Nat) (x0 : Int) (x1 : Int) (x2 : Int) : alu_do_i24_g1 n x0 x1 x2 =
  if x2 = 0 then none else (if x1.tmod x2 < 0 then none else (some (((x0, ()), (x1, ()), (x2, ()), ()), (sShr .u64 x0 (x1.tmod x2), ())))) := by kernel_rfl
noncomputable def alu_do_i24_g1_sp : GSpec TT := ⟨[.ptr 0 25 [.val (.int .u64)], .ptr 0 25 [.val (.int .u64)], .ptr 0 25 [.val (.int .u64)]], [.blk 25 [.val (.int .u64)], .blk 25 [.val (.int .u64)], .blk 25 [.val (.int .u64)]], [.val (.int .u64)], fun x => alu_do_i24_g1 BIG x.1.1 x.2.1.1 x.2.2.1.1⟩
theorem alu_do_i24_g1_ok : GOk TT Tryz.prog 107 alu_do_i24_g1_sp := gOk_of (C := alu_do_i24_g1_C) (cuts := alu_do_i24_g1_cuts) (by kernel_rfl) alu_do_i24_g1_env Tryz.func107 (show Tryz.f107.body = some (bodyOf Tryz.f107) by kernel_rfl) (by kernel_rfl) (by kernel_rfl) (by kernel_rfl) fun x y h => ⟨BIG, h⟩
noncomputable def alu_do_i25_g1_C : Ctx TT := ⟨tyOf, [], 3, [], layOf⟩
theorem alu_do_i25_g1_env : EnvOk TT Tryz.prog alu_do_i25_g1_C.E := envNil
def alu_do_i25_g1_cuts : List (Pos × Cut) := []
noncomputable def alu_do_i25_g1 (n : Nat) (x0 : Int) (x1 : Int) (x2 : Int) : Option (((Int × Unit) × (Int × Unit) × (Int × Unit) × Unit) × (Int × Unit)) := topG TT Tryz.prog alu_do_i25_g1_C alu_do_i25_g1_cuts Tryz.f108 (bodyOf Tryz.f108) ⟨[], [], [], [], []⟩ [.ptr 0 25 [.val (.int .u64)], .ptr 0 25 [.val (.int .u64)], .ptr 0 25 [.val (.int .u64)]] [.blk 25 [.val (.int .u64)], .blk 25 [.val (.int .u64)], .blk 25 [.val (.int .u64)]] [.val (.int .u64)] n ((x0, ()), (x1, ()), (x2, ()), ())
theorem alu_do_i25_g1_eq (n : Nat) (x0 : Int) (x1 : Int) (x2 : Int) : alu_do_i25_g1 n x0 x1 x2 =
  if x2 = 0 then none else (if x1.tmod x2 < 0 then none else (some (((x0, ()), (x1, ()), (x2, ()), ()), (IntKind.u64.wrap (sShr .i64 (IntKind.i64.wrap x0) (x1.tmod x2)), ())))) := by kernel_rfl
noncomputable def alu_do_i25_g1_sp : GSpec TT := ⟨[.ptr 0 25 [.val (.int .u64)], .ptr 0 25 [.val (.int .u64)], .ptr 0 25 [.val (.int .u64)]], [.blk 25 [.val (.int .u64)], .blk 25 [.val (.int .u64)], .blk 25 [.val (.int .u64)]], [.val (.int .u64)], fun x => alu_do_i25_g1 BIG x.1.1 x.2.1.1 x.2.2.1.1⟩
theorem alu_do_i25_g1_ok : GOk TT Tryz.prog 108 alu_do_i25_g1_sp := gOk_of (C := alu_do_i25_g1_C) (cuts := alu_do_i25_g1_cuts) (by kernel_rfl) alu_do_i25_g1_env Tryz.func108 (show Tryz.f108.body = some (bodyOf Tryz.f108) by kernel_rfl) (by kernel_rfl) (by kernel_rfl) (by kernel_rfl) fun x y h => ⟨BIG, h⟩
noncomputable def alu_do_i26_g1_C : Ctx TT := ⟨tyOf, [], 1, [], layOf⟩
theorem alu_do_i26_g1_env : EnvOk TT Tryz.prog alu_do_i26_g1_C.E := envNil
def alu_do_i26_g1_cuts : List (Pos × Cut) := []
noncomputable def alu_do_i26_g1 (n : Nat) (x0 : Int) : Option (((Int × Unit) × Unit) × (Int × Unit)) := topG TT Tryz.prog alu_do_i26_g1_C alu_do_i26_g1_cuts Tryz.f109 (bodyOf Tryz.f109) ⟨[], [], [], [], []⟩ [.ptr 0 25 [.val (.int .u64)]] [.blk 25 [.val (.int .u64)]] [.val (.int .u64)] n ((x0, ()), ())
theorem alu_do_i26_g1_eq (n : Nat) (x0 : Int) : alu_do_i26_g1 n x0 =
  some (((x0, ()), ()), (x0, ())) := by kernel_rfl
noncomputable def alu_do_i26_g1_sp : GSpec TT := ⟨[.ptr 0 25 [.val (.int .u64)]], [.blk 25 [.val (.int .u64)]], [.val (.int .u64)], fun x => alu_do_i26_g1 BIG x.1.1⟩
theorem alu_do_i26_g1_ok : GOk TT Tryz.prog 109 alu_do_i26_g1_sp := gOk_of (C := alu_do_i26_g1_C) (cuts := alu_do_i26_g1_cuts) (by kernel_rfl) alu_do_i26_g1_env Tryz.func109 (show Tryz.f109.body = some (bodyOf Tryz.f109) by kernel_rfl) (by kernel_rfl) (by kernel_rfl) (by kernel_rfl) fun x y h => ⟨BIG, h⟩
noncomputable def alu_do_i27_g1_C : Ctx TT := ⟨tyOf, [], 1, [], layOf⟩
theorem alu_do_i27_g1_env : EnvOk TT Tryz.prog alu_do_i27_g1_C.E := envNil
def alu_do_i27_g1_cuts : List (Pos × Cut) := []
noncomputable def alu_do_i27_g1 (n : Nat) (x0 : Int) : Option (((Int × Unit) × Unit) × (Int × Unit)) := topG TT Tryz.prog alu_do_i27_g1_C alu_do_i27_g1_cuts Tryz.f110 (bodyOf Tryz.f110) ⟨[], [], [], [], []⟩ [.ptr 0 25 [.val (.int .u64)]] [.blk 25 [.val (.int .u64)]] [.val (.int .u64)] n ((x0, ()), ())
theorem alu_do_i27_g1_eq (n : Nat) (x0 : Int) : alu_do_i27_g1 n x0 =
  some (((x0, ()), ()), (IntKind.u64.wrap (0 - x0), ())) := by kernel_rfl
noncomputable def alu_do_i27_g1_sp : GSpec TT := ⟨[.ptr 0 25 [.val (.int .u64)]], [.blk 25 [.val (.int .u64)]], [.val (.int .u64)], fun x => alu_do_i27_g1 BIG x.1.1⟩
theorem alu_do_i27_g1_ok : GOk TT Tryz.prog 110 alu_do_i27_g1_sp := gOk_of (C := alu_do_i27_g1_C) (cuts := alu_do_i27_g1_cuts) (by kernel_rfl) alu_do_i27_g1_env Tryz.func110 (show Tryz.f110.body = some (bodyOf Tryz.f110) by kernel_rfl) (by kernel_rfl) (by kernel_rfl) (by kernel_rfl) fun x y h => ⟨BIG, h⟩
noncomputable def alu_do_i14_C : Ctx TT := ⟨tyOf, [(98, alu_do_i15_g1_sp.toCall (noCall TT)), (99, alu_do_i16_g1_sp.toCall (noCall TT)), (100, alu_do_i17_g1_sp.toCall (noCall TT)), (101, alu_do_i18_g1_sp.toCall (noCall TT)), (102, alu_do_i19_g1_sp.toCall (noCall TT)), (103, alu_do_i20_g1_sp.toCall (noCall TT)), (104, alu_do_i21_g1_sp.toCall (noCall TT)), (105, alu_do_i22_g1_sp.toCall (noCall TT)), (106, alu_do_i23_g1_sp.toCall (noCall TT)), (107, alu_do_i24_g1_sp.toCall (noCall TT)), (108, alu_do_i25_g1_sp.toCall (noCall TT)), (109, alu_do_i26_g1_sp.toCall (noCall TT)), (110, alu_do_i27_g1_sp.toCall (noCall TT))], 0, [], layOf⟩
theorem alu_do_i14_env : EnvOk TT Tryz.prog alu_do_i14_C.E := envG (gCall_ok alu_do_i15_g1_ok (noCall_ok 98)) (envG (gCall_ok alu_do_i16_g1_ok (noCall_ok 99)) (envG (gCall_ok alu_do_i17_g1_ok (noCall_ok 100)) (envG (gCall_ok alu_do_i18_g1_ok (noCall_ok 101)) (envG (gCall_ok alu_do_i19_g1_ok (noCall_ok 102)) (envG (gCall_ok alu_do_i20_g1_ok (noCall_ok 103)) (envG (gCall_ok alu_do_i21_g1_ok (noCall_ok 104)) (envG (gCall_ok alu_do_i22_g1_ok (noCall_ok 105)) (envG (gCall_ok alu_do_i23_g1_ok (noCall_ok 106)) (envG (gCall_ok alu_do_i24_g1_ok (noCall_ok 107)) (envG (gCall_ok alu_do_i25_g1_ok (noCall_ok 108)) (envG (gCall_ok alu_do_i26_g1_ok (noCall_ok 109)) (envG (gCall_ok alu_do_i27_g1_ok (noCall_ok 110)) (envNil)))))))))))))
def alu_do_i14_cuts : List (Pos × Cut) := [([false, true], ⟨[0, 5, 6, 7, 21], [], false, []⟩)]
noncomputable def alu_do_i14 (n : Nat) (x0 : Int) (x1 : Int) (x2 : Int) (x3 : Int) : Option (Int × Int) := topF TT Tryz.prog alu_do_i14_C alu_do_i14_cuts Tryz.f84 (bodyOf Tryz.f84) ⟨[], []⟩ [.val (.int .u8), .val (.int .u64), .val (.int .u64), .val (.int .u64)] [.val (.int .u64), .val (.int .i64)] n (x0, x1, x2, x3)
noncomputable def alu_do_i14_J0 (n : Nat) (s0 : Int) (s21 : Bool) (b0_0 : Int) (b1_0 : Int) (b2_0 : Int) : Option (Int × Int) := cutF TT Tryz.prog alu_do_i14_C alu_do_i14_cuts Tryz.f84 (bodyOf Tryz.f84) ⟨[], []⟩ [.val (.int .u8), .val (.int .u64), .val (.int .u64), .val (.int .u64)] [.val (.int .u64), .val (.int .i64)] n [false, true] ⟨[(0, .cell ⟨.int .u8, s0⟩), (5, .ptr 0 0), (6, .ptr 1 0), (7, .ptr 2 0), (21, .cell ⟨.bool, s21⟩)], [.blk 25 [.cell ⟨.int .u64, b0_0⟩], .blk 25 [.cell ⟨.int .u64, b1_0⟩], .blk 25 [.cell ⟨.int .u64, b2_0⟩]]⟩
theorem alu_do_i14_eq (n : Nat) (x0 : Int) (x1 : Int) (x2 : Int) (x3 : Int) : alu_do_i14 n x0 x1 x2 x3 =
  forkB (x0 == (4 : Int))
  (alu_do_i14_J0 n x0 (x3 == (0 : Int)) x1 x2 x3)
  (forkB (x0 == (5 : Int))
   (alu_do_i14_J0 n x0 (x3 == (0 : Int)) x1 x2 x3)
   (alu_do_i14_J0 n x0 false x1 x2 x3)) := by kernel_rfl
theorem alu_do_i14_J0_eq (n : Nat) (s0 : Int) (s21 : Bool) (b0_0 : Int) (b1_0 : Int) (b2_0 : Int) : alu_do_i14_J0 (n + 1) s0 s21 b0_0 b1_0 b2_0 =
  forkB s21
  (some ((0 : Int), (113 : Int)))
  (if s0 = (1 : Int) then (obind (alu_do_i15_g1 BIG b1_0 b2_0) fun y1 =>
    some (y1.2.1, (0 : Int))) else (if s0 = (2 : Int) then (obind (alu_do_i16_g1 BIG b1_0 b2_0) fun y2 =>
     some (y2.2.1, (0 : Int))) else (if s0 = (3 : Int) then (obind (alu_do_i17_g1 BIG b1_0 b2_0) fun y3 =>
      some (y3.2.1, (0 : Int))) else (if s0 = (4 : Int) then (obind (alu_do_i18_g1 BIG b1_0 b2_0) fun y4 =>
       some (y4.2.1, (0 : Int))) else (if s0 = (5 : Int) then (obind (alu_do_i19_g1 BIG b1_0 b2_0) fun y5 =>
        some (y5.2.1, (0 : Int))) else (if s0 = (6 : Int) then (obind (alu_do_i20_g1 BIG b1_0 b2_0) fun y6 =>
         some (y6.2.1, (0 : Int))) else (if s0 = (7 : Int) then (obind (alu_do_i21_g1 BIG b1_0 b2_0) fun y7 =>
          some (y7.2.1, (0 : Int))) else (if s0 = (8 : Int) then (obind (alu_do_i22_g1 BIG b1_0 b2_0) fun y8 =>
           some (y8.2.1, (0 : Int))) else (if s0 = (9 : Int) then (obind (alu_do_i23_g1 BIG b1_0 b2_0 b0_0) fun y9 =>
            some (y9.2.1, (0 : Int))) else (if s0 = (10 : Int) then (obind (alu_do_i24_g1 BIG b1_0 b2_0 b0_0) fun y10 =>
             some (y10.2.1, (0 : Int))) else (if s0 = (11 : Int) then (obind (alu_do_i25_g1 BIG b1_0 b2_0 b0_0) fun y11 =>
              some (y11.2.1, (0 : Int))) else (if s0 = (12 : Int) then (obind (alu_do_i26_g1 BIG b2_0) fun y12 =>
               some (y12.2.1, (0 : Int))) else (if s0 = (13 : Int) then (obind (alu_do_i27_g1 BIG b1_0) fun y13 =>
                some (y13.2.1, (0 : Int))) else (some ((0 : Int), (2 : Int)))))))))))))))) := by kernel_rfl
noncomputable def alu_do_i14_sp : FnSpec TT := ⟨[.val (.int .u8), .val (.int .u64), .val (.int .u64), .val (.int .u64)], [.val (.int .u64), .val (.int .i64)], fun x => alu_do_i14 BIG x.1 x.2.1 x.2.2.1 x.2.2.2⟩
theorem alu_do_i14_ok : FnOk TT Tryz.prog 84 alu_do_i14_sp := fnOk_of (C := alu_do_i14_C) (by kernel_rfl) alu_do_i14_env Tryz.func84 (show Tryz.f84.body = some (bodyOf Tryz.f84) by kernel_rfl) (by kernel_rfl) (by kernel_rfl) (cuts := alu_do_i14_cuts) fun x y h => ⟨BIG, h⟩
noncomputable def aluDo_C : Ctx TT := ⟨tyOf, [(83, alu_do_sp.toCall), (84, alu_do_i14_sp.toCall)], 0, [], layOf⟩
theorem aluDo_env : EnvOk TT Tryz.prog aluDo_C.E := envG (fnCall_ok alu_do_ok) (envG (fnCall_ok alu_do_i14_ok) (envNil))
def aluDo_cuts : List (Pos × Cut) := []
noncomputable def aluDo (n : Nat) (x0 : Int) (x1 : Bool) (x2 : Int) (x3 : Int) : Option (Int × Int) := topF TT Tryz.prog aluDo_C aluDo_cuts Tryz.f75 (bodyOf Tryz.f75) ⟨[], []⟩ [.val (.int .u8), .val (.bool), .val (.int .u64), .val (.int .u64)] [.val (.int .u64), .val (.int .i64)] n (x0, x1, x2, x3)
theorem aluDo_eq (n : Nat) (x0 : Int) (x1 : Bool) (x2 : Int) (x3 : Int) : aluDo n x0 x1 x2 x3 =
  forkB x1
  (obind (alu_do BIG x0 (32 : Int) (IntKind.u32.wrap x2) (IntKind.u32.wrap x3)) fun y1 =>
   some (IntKind.u64.wrap y1.1, y1.2))
  (obind (alu_do_i14 BIG x0 (64 : Int) x2 x3) fun y2 =>
   some (y2.1, y2.2)) := by kernel_rfl
noncomputable def aluDo_sp : FnSpec TT := ⟨[.val (.int .u8), .val (.bool), .val (.int .u64), .val (.int .u64)], [.val (.int .u64), .val (.int .i64)], fun x => aluDo BIG x.1 x.2.1 x.2.2.1 x.2.2.2⟩
theorem aluDo_ok : FnOk TT Tryz.prog 75 aluDo_sp := fnOk_of (C := aluDo_C) (by kernel_rfl) aluDo_env Tryz.func75 (show Tryz.f75.body = some (bodyOf Tryz.f75) by kernel_rfl) (by kernel_rfl) (by kernel_rfl) (cuts := aluDo_cuts) fun x y h => ⟨BIG, h⟩
noncomputable def ref01_bit_C : Ctx TT := ⟨tyOf, [], 0, [], layOf⟩
theorem ref01_bit_env : EnvOk TT Tryz.prog ref01_bit_C.E := envNil
def ref01_bit_cuts : List (Pos × Cut) := []
noncomputable def ref01_bit (n : Nat) (x0 : Int) (x1 : Int) : Option (Bool) := topF TT Tryz.prog ref01_bit_C ref01_bit_cuts Tryz.f78 (bodyOf Tryz.f78) ⟨[], []⟩ [.val (.int .u64), .val (.int .i64)] [.val (.bool)] n (x0, x1)
theorem ref01_bit_eq (n : Nat) (x0 : Int) (x1 : Int) : ref01_bit n x0 x1 =
  if IntKind.u64.wrap x1 < 0 then none else (some ((bAnd .u64 (sShr .u64 x0 (IntKind.u64.wrap x1)) (1 : Int)) == (1 : Int))) := by kernel_rfl
noncomputable def ref01_bit_sp : FnSpec TT := ⟨[.val (.int .u64), .val (.int .i64)], [.val (.bool)], fun x => ref01_bit BIG x.1 x.2⟩
theorem ref01_bit_ok : FnOk TT Tryz.prog 78 ref01_bit_sp := fnOk_of (C := ref01_bit_C) (by kernel_rfl) ref01_bit_env Tryz.func78 (show Tryz.f78.body = some (bodyOf Tryz.f78) by kernel_rfl) (by kernel_rfl) (by kernel_rfl) (cuts := ref01_bit_cuts) fun x y h => ⟨BIG, h⟩
noncomputable def ref01_each_C : Ctx TT := ⟨tyOf, [(78, ref01_bit_sp.toCall)], 0, [], layOf⟩
theorem ref01_each_env : EnvOk TT Tryz.prog ref01_each_C.E := envG (fnCall_ok ref01_bit_ok) (envNil)
def ref01_each_cuts : List (Pos × Cut) := [([false, true, false, true, true], ⟨[0, 1, 2, 7, 8], [], false, []⟩), ([true, false, false, true, false, true, true], ⟨[0, 1, 2, 7, 8], [], false, []⟩), ([true, false, false, true, false, false, true, false, true, true], ⟨[0, 1, 2, 7, 8, 9, 10, 11], [], false, []⟩), ([true, true, false, false, true, false, false, true, false, true, true], ⟨[0, 1, 2, 7, 8, 9, 10, 11], [], false, []⟩), ([true, true, true, false, false, true, false, false, true, false, true, true], ⟨[0, 1, 2, 7, 8, 11], [], false, []⟩)]
noncomputable def ref01_each (n : Nat) (x0 : Int) (x1 : Int) (x2 : Int) : Option (Int) := topF TT Tryz.prog ref01_each_C ref01_each_cuts Tryz.f76 (bodyOf Tryz.f76) ⟨[], []⟩ [.val (.int .u8), .val (.int .u64), .val (.int .u64)] [.val (.int .u64)] n (x0, x1, x2)
noncomputable def ref01_each_L0 (n : Nat) (s0 : Int) (s1 : Int) (s2 : Int) (s7 : Int) (s8 : Int) : Option (Int) := cutF TT Tryz.prog ref01_each_C ref01_each_cuts Tryz.f76 (bodyOf Tryz.f76) ⟨[], []⟩ [.val (.int .u8), .val (.int .u64), .val (.int .u64)] [.val (.int .u64)] n [false, true, false, true, true] ⟨[(0, .cell ⟨.int .u8, s0⟩), (1, .cell ⟨.int .u64, s1⟩), (2, .cell ⟨.int .u64, s2⟩), (7, .cell ⟨.int .u64, s7⟩), (8, .cell ⟨.int .i64, s8⟩)], []⟩
noncomputable def ref01_each_J2 (n : Nat) (s0 : Int) (s1 : Int) (s2 : Int) (s7 : Int) (s8 : Int) (s9 : Bool) (s10 : Bool) (s11 : Bool) : Option (Int) := cutF TT Tryz.prog ref01_each_C ref01_each_cuts Tryz.f76 (bodyOf Tryz.f76) ⟨[], []⟩ [.val (.int .u8), .val (.int .u64), .val (.int .u64)] [.val (.int .u64)] n [true, false, false, true, false, false, true, false, true, true] ⟨[(0, .cell ⟨.int .u8, s0⟩), (1, .cell ⟨.int .u64, s1⟩), (2, .cell ⟨.int .u64, s2⟩), (7, .cell ⟨.int .u64, s7⟩), (8, .cell ⟨.int .i64, s8⟩), (9, .cell ⟨.bool, s9⟩), (10, .cell ⟨.bool, s10⟩), (11, .cell ⟨.bool, s11⟩)], []⟩
noncomputable def ref01_each_J3 (n : Nat) (s0 : Int) (s1 : Int) (s2 : Int) (s7 : Int) (s8 : Int) (s9 : Bool) (s10 : Bool) (s11 : Bool) : Option (Int) := cutF TT Tryz.prog ref01_each_C ref01_each_cuts Tryz.f76 (bodyOf Tryz.f76) ⟨[], []⟩ [.val (.int .u8), .val (.int .u64), .val (.int .u64)] [.val (.int .u64)] n [true, true, false, false, true, false, false, true, false, true, true] ⟨[(0, .cell ⟨.int .u8, s0⟩), (1, .cell ⟨.int .u64, s1⟩), (2, .cell ⟨.int .u64, s2⟩), (7, .cell ⟨.int .u64, s7⟩), (8, .cell ⟨.int .i64, s8⟩), (9, .cell ⟨.bool, s9⟩), (10, .cell ⟨.bool, s10⟩), (11, .cell ⟨.bool, s11⟩)], []⟩
noncomputable def ref01_each_J4 (n : Nat) (s0 : Int) (s1 : Int) (s2 : Int) (s7 : Int) (s8 : Int) (s11 : Bool) : Option (Int) := cutF TT Tryz.prog ref01_each_C ref01_each_cuts Tryz.f76 (bodyOf Tryz.f76) ⟨[], []⟩ [.val (.int .u8), .val (.int .u64), .val (.int .u64)] [.val (.int .u64)] n [true, true, true, false, false, true, false, false, true, false, true, true] ⟨[(0, .cell ⟨.int .u8, s0⟩), (1, .cell ⟨.int .u64, s1⟩), (2, .cell ⟨.int .u64, s2⟩), (7, .cell ⟨.int .u64, s7⟩), (8, .cell ⟨.int .i64, s8⟩), (11, .cell ⟨.bool, s11⟩)], []⟩
noncomputable def ref01_each_J1 (n : Nat) (s0 : Int) (s1 : Int) (s2 : Int) (s7 : Int) (s8 : Int) : Option (Int) := cutF TT Tryz.prog ref01_each_C ref01_each_cuts Tryz.f76 (bodyOf Tryz.f76) ⟨[], []⟩ [.val (.int .u8), .val (.int .u64), .val (.int .u64)] [.val (.int .u64)] n [true, false, false, true, false, true, true] ⟨[(0, .cell ⟨.int .u8, s0⟩), (1, .cell ⟨.int .u64, s1⟩), (2, .cell ⟨.int .u64, s2⟩), (7, .cell ⟨.int .u64, s7⟩), (8, .cell ⟨.int .i64, s8⟩)], []⟩
theorem ref01_each_eq (n : Nat) (x0 : Int) (x1 : Int) (x2 : Int) : ref01_each n x0 x1 x2 =
  ref01_each_L0 n x0 x1 x2 (0 : Int) (0 : Int) := by kernel_rfl
theorem ref01_each_L0_eq (n : Nat) (s0 : Int) (s1 : Int) (s2 : Int) (s7 : Int) (s8 : Int) : ref01_each_L0 (n + 1) s0 s1 s2 s7 s8 =
  forkB (decide (s8 < (64 : Int)))
  (obind (ref01_bit BIG s1 s8) fun y1 =>
   obind (ref01_bit BIG s2 s8) fun y2 =>
   forkB y1
   (ref01_each_J2 n s0 s1 s2 s7 s8 y1 y2 y2)
   (ref01_each_J2 n s0 s1 s2 s7 s8 y1 y2 false))
  (some s7) := by kernel_rfl
theorem ref01_each_J2_eq (n : Nat) (s0 : Int) (s1 : Int) (s2 : Int) (s7 : Int) (s8 : Int) (s9 : Bool) (s10 : Bool) (s11 : Bool) : ref01_each_J2 (n + 1) s0 s1 s2 s7 s8 s9 s10 s11 =
  forkB (s0 == (7 : Int))
  (forkB s9
   (ref01_each_J3 n s0 s1 s2 s7 s8 s9 s10 true)
   (ref01_each_J3 n s0 s1 s2 s7 s8 s9 s10 s10))
  (ref01_each_J3 n s0 s1 s2 s7 s8 s9 s10 s11) := by kernel_rfl
theorem ref01_each_J3_eq (n : Nat) (s0 : Int) (s1 : Int) (s2 : Int) (s7 : Int) (s8 : Int) (s9 : Bool) (s10 : Bool) (s11 : Bool) : ref01_each_J3 (n + 1) s0 s1 s2 s7 s8 s9 s10 s11 =
  forkB (s0 == (8 : Int))
  (ref01_each_J4 n s0 s1 s2 s7 s8 (!(s9 == s10)))
  (ref01_each_J4 n s0 s1 s2 s7 s8 s11) := by kernel_rfl
theorem ref01_each_J4_eq (n : Nat) (s0 : Int) (s1 : Int) (s2 : Int) (s7 : Int) (s8 : Int) (s11 : Bool) : ref01_each_J4 (n + 1) s0 s1 s2 s7 s8 s11 =
  forkB s11
  (if IntKind.u64.wrap s8 < 0 then none else (ref01_each_J1 n s0 s1 s2 (bOr .u64 s7 (sShl .u64 (1 : Int) (IntKind.u64.wrap s8))) s8))
  (ref01_each_J1 n s0 s1 s2 s7 s8) := by kernel_rfl
theorem ref01_each_J1_eq (n : Nat) (s0 : Int) (s1 : Int) (s2 : Int) (s7 : Int) (s8 : Int) : ref01_each_J1 (n + 1) s0 s1 s2 s7 s8 =
  ref01_each_L0 n s0 s1 s2 s7 (IntKind.i64.wrap (s8 + (1 : Int))) := by kernel_rfl
noncomputable def ref01_each_sp : FnSpec TT := ⟨[.val (.int .u8), .val (.int .u64), .val (.int .u64)], [.val (.int .u64)], fun x => ref01_each BIG x.1 x.2.1 x.2.2⟩
theorem ref01_each_ok : FnOk TT Tryz.prog 76 ref01_each_sp := fnOk_of (C := ref01_each_C) (by kernel_rfl) ref01_each_env Tryz.func76 (show Tryz.f76.body = some (bodyOf Tryz.f76) by kernel_rfl) (by kernel_rfl) (by kernel_rfl) (cuts := ref01_each_cuts) fun x y h => ⟨BIG, h⟩
noncomputable def ref01_moved_C : Ctx TT := ⟨tyOf, [(78, ref01_bit_sp.toCall)], 0, [], layOf⟩
theorem ref01_moved_env : EnvOk TT Tryz.prog ref01_moved_C.E := envG (fnCall_ok ref01_bit_ok) (envNil)
def ref01_moved_cuts : List (Pos × Cut) := [([false, true, false, true, true], ⟨[0, 1, 2, 3, 9, 10], [], false, []⟩), ([true, false, false, true, false, true, true], ⟨[0, 1, 2, 3, 9, 10], [], false, []⟩), ([true, true, false, false, true, false, false, true, false, true, true], ⟨[0, 1, 2, 3, 9, 10, 12], [], false, []⟩), ([false, true, true, false, false, true, false, false, true, false, true, true], ⟨[0, 1, 2, 3, 9, 10, 11, 12, 28], [], false, []⟩)]
noncomputable def ref01_moved (n : Nat) (x0 : Int) (x1 : Int) (x2 : Int) (x3 : Bool) : Option (Int) := topF TT Tryz.prog ref01_moved_C ref01_moved_cuts Tryz.f77 (bodyOf Tryz.f77) ⟨[], []⟩ [.val (.int .u64), .val (.int .i64), .val (.int .i64), .val (.bool)] [.val (.int .u64)] n (x0, x1, x2, x3)
noncomputable def ref01_moved_L0 (n : Nat) (s0 : Int) (s1 : Int) (s2 : Int) (s3 : Bool) (s9 : Int) (s10 : Int) : Option (Int) := cutF TT Tryz.prog ref01_moved_C ref01_moved_cuts Tryz.f77 (bodyOf Tryz.f77) ⟨[], []⟩ [.val (.int .u64), .val (.int .i64), .val (.int .i64), .val (.bool)] [.val (.int .u64)] n [false, true, false, true, true] ⟨[(0, .cell ⟨.int .u64, s0⟩), (1, .cell ⟨.int .i64, s1⟩), (2, .cell ⟨.int .i64, s2⟩), (3, .cell ⟨.bool, s3⟩), (9, .cell ⟨.int .u64, s9⟩), (10, .cell ⟨.int .i64, s10⟩)], []⟩
noncomputable def ref01_moved_J3 (n : Nat) (s0 : Int) (s1 : Int) (s2 : Int) (s3 : Bool) (s9 : Int) (s10 : Int) (s11 : Int) (s12 : Bool) (s28 : Bool) : Option (Int) := cutF TT Tryz.prog ref01_moved_C ref01_moved_cuts Tryz.f77 (bodyOf Tryz.f77) ⟨[], []⟩ [.val (.int .u64), .val (.int .i64), .val (.int .i64), .val (.bool)] [.val (.int .u64)] n [false, true, true, false, false, true, false, false, true, false, true, true] ⟨[(0, .cell ⟨.int .u64, s0⟩), (1, .cell ⟨.int .i64, s1⟩), (2, .cell ⟨.int .i64, s2⟩), (3, .cell ⟨.bool, s3⟩), (9, .cell ⟨.int .u64, s9⟩), (10, .cell ⟨.int .i64, s10⟩), (11, .cell ⟨.int .i64, s11⟩), (12, .cell ⟨.bool, s12⟩), (28, .cell ⟨.bool, s28⟩)], []⟩
noncomputable def ref01_moved_J2 (n : Nat) (s0 : Int) (s1 : Int) (s2 : Int) (s3 : Bool) (s9 : Int) (s10 : Int) (s12 : Bool) : Option (Int) := cutF TT Tryz.prog ref01_moved_C ref01_moved_cuts Tryz.f77 (bodyOf Tryz.f77) ⟨[], []⟩ [.val (.int .u64), .val (.int .i64), .val (.int .i64), .val (.bool)] [.val (.int .u64)] n [true, true, false, false, true, false, false, true, false, true, true] ⟨[(0, .cell ⟨.int .u64, s0⟩), (1, .cell ⟨.int .i64, s1⟩), (2, .cell ⟨.int .i64, s2⟩), (3, .cell ⟨.bool, s3⟩), (9, .cell ⟨.int .u64, s9⟩), (10, .cell ⟨.int .i64, s10⟩), (12, .cell ⟨.bool, s12⟩)], []⟩
noncomputable def ref01_moved_J1 (n : Nat) (s0 : Int) (s1 : Int) (s2 : Int) (s3 : Bool) (s9 : Int) (s10 : Int) : Option (Int) := cutF TT Tryz.prog ref01_moved_C ref01_moved_cuts Tryz.f77 (bodyOf Tryz.f77) ⟨[], []⟩ [.val (.int .u64), .val (.int .i64), .val (.int .i64), .val (.bool)] [.val (.int .u64)] n [true, false, false, true, false, true, true] ⟨[(0, .cell ⟨.int .u64, s0⟩), (1, .cell ⟨.int .i64, s1⟩), (2, .cell ⟨.int .i64, s2⟩), (3, .cell ⟨.bool, s3⟩), (9, .cell ⟨.int .u64, s9⟩), (10, .cell ⟨.int .i64, s10⟩)], []⟩
theorem ref01_moved_eq (n : Nat) (x0 : Int) (x1 : Int) (x2 : Int) (x3 : Bool) : ref01_moved n x0 x1 x2 x3 =
  ref01_moved_L0 n x0 x1 x2 x3 (0 : Int) (0 : Int) := by kernel_rfl
theorem ref01_moved_L0_eq (n : Nat) (s0 : Int) (s1 : Int) (s2 : Int) (s3 : Bool) (s9 : Int) (s10 : Int) : ref01_moved_L0 (n + 1) s0 s1 s2 s3 s9 s10 =
  forkB (decide (s10 < s2))
  (forkB (decide ((IntKind.i64.wrap (s10 - s1)) ≥ (0 : Int)))
   (ref01_moved_J3 n s0 s1 s2 s3 s9 s10 (IntKind.i64.wrap (s10 - s1)) s3 (decide ((IntKind.i64.wrap (s10 - s1)) < s2)))
   (ref01_moved_J3 n s0 s1 s2 s3 s9 s10 (IntKind.i64.wrap (s10 - s1)) s3 false))
  (some s9) := by kernel_rfl
theorem ref01_moved_J3_eq (n : Nat) (s0 : Int) (s1 : Int) (s2 : Int) (s3 : Bool) (s9 : Int) (s10 : Int) (s11 : Int) (s12 : Bool) (s28 : Bool) : ref01_moved_J3 (n + 1) s0 s1 s2 s3 s9 s10 s11 s12 s28 =
  forkB s28
  (obind (ref01_bit BIG s0 s11) fun y1 =>
   ref01_moved_J2 n s0 s1 s2 s3 s9 s10 y1)
  (ref01_moved_J2 n s0 s1 s2 s3 s9 s10 s12) := by kernel_rfl
theorem ref01_moved_J2_eq (n : Nat) (s0 : Int) (s1 : Int) (s2 : Int) (s3 : Bool) (s9 : Int) (s10 : Int) (s12 : Bool) : ref01_moved_J2 (n + 1) s0 s1 s2 s3 s9 s10 s12 =
  forkB s12
  (if IntKind.u64.wrap s10 < 0 then none else (ref01_moved_J1 n s0 s1 s2 s3 (bOr .u64 s9 (sShl .u64 (1 : Int) (IntKind.u64.wrap s10))) s10))
  (ref01_moved_J1 n s0 s1 s2 s3 s9 s10) := by kernel_rfl
theorem ref01_moved_J1_eq (n : Nat) (s0 : Int) (s1 : Int) (s2 : Int) (s3 : Bool) (s9 : Int) (s10 : Int) : ref01_moved_J1 (n + 1) s0 s1 s2 s3 s9 s10 =
  ref01_moved_L0 n s0 s1 s2 s3 s9 (IntKind.i64.wrap (s10 + (1 : Int))) := by kernel_rfl
noncomputable def ref01_moved_sp : FnSpec TT := ⟨[.val (.int .u64), .val (.int .i64), .val (.int .i64), .val (.bool)], [.val (.int .u64)], fun x => ref01_moved BIG x.1 x.2.1 x.2.2.1 x.2.2.2⟩
theorem ref01_moved_ok : FnOk TT Tryz.prog 77 ref01_moved_sp := fnOk_of (C := ref01_moved_C) (by kernel_rfl) ref01_moved_env Tryz.func77 (show Tryz.f77.body = some (bodyOf Tryz.f77) by kernel_rfl) (by kernel_rfl) (by kernel_rfl) (cuts := ref01_moved_cuts) fun x y h => ⟨BIG, h⟩
noncomputable def ref01Do_C : Ctx TT := ⟨tyOf, [(76, ref01_each_sp.toCall), (77, ref01_moved_sp.toCall), (78, ref01_bit_sp.toCall)], 0, [], layOf⟩
theorem ref01Do_env : EnvOk TT Tryz.prog ref01Do_C.E := envG (fnCall_ok ref01_each_ok) (envG (fnCall_ok ref01_moved_ok) (envG (fnCall_ok ref01_bit_ok) (envNil)))
def ref01Do_cuts : List (Pos × Cut) := [([true, true], ⟨[0, 1, 2, 3, 10], [], false, []⟩), ([true, true, true, true], ⟨[1, 11], [], false, []⟩), ([true, true, true, true, true, true, false, true, false, true, true, true, true], ⟨[0, 1, 2, 3, 10, 17, 33], [], false, []⟩), ([true, true, true, true, true, true, true, true, false, true, false, true, true, true, true], ⟨[0, 1, 2, 3, 10, 17, 48], [], false, []⟩)]
noncomputable def ref01Do (n : Nat) (x0 : Int) (x1 : Bool) (x2 : Int) (x3 : Int) : Option (Int × Int) := topF TT Tryz.prog ref01Do_C ref01Do_cuts Tryz.f61 (bodyOf Tryz.f61) ⟨[], []⟩ [.val (.int .u8), .val (.bool), .val (.int .u64), .val (.int .u64)] [.val (.int .u64), .val (.int .i64)] n (x0, x1, x2, x3)
noncomputable def ref01Do_J0 (n : Nat) (s0 : Int) (s1 : Bool) (s2 : Int) (s3 : Int) (s10 : Int) : Option (Int × Int) := cutF TT Tryz.prog ref01Do_C ref01Do_cuts Tryz.f61 (bodyOf Tryz.f61) ⟨[], []⟩ [.val (.int .u8), .val (.bool), .val (.int .u64), .val (.int .u64)] [.val (.int .u64), .val (.int .i64)] n [true, true] ⟨[(0, .cell ⟨.int .u8, s0⟩), (1, .cell ⟨.bool, s1⟩), (2, .cell ⟨.int .u64, s2⟩), (3, .cell ⟨.int .u64, s3⟩), (10, .cell ⟨.int .i64, s10⟩)], []⟩
noncomputable def ref01Do_J1 (n : Nat) (s1 : Bool) (s11 : Int) : Option (Int × Int) := cutF TT Tryz.prog ref01Do_C ref01Do_cuts Tryz.f61 (bodyOf Tryz.f61) ⟨[], []⟩ [.val (.int .u8), .val (.bool), .val (.int .u64), .val (.int .u64)] [.val (.int .u64), .val (.int .i64)] n [true, true, true, true] ⟨[(1, .cell ⟨.bool, s1⟩), (11, .cell ⟨.int .u64, s11⟩)], []⟩
noncomputable def ref01Do_J2 (n : Nat) (s0 : Int) (s1 : Bool) (s2 : Int) (s3 : Int) (s10 : Int) (s17 : Int) (s33 : Bool) : Option (Int × Int) := cutF TT Tryz.prog ref01Do_C ref01Do_cuts Tryz.f61 (bodyOf Tryz.f61) ⟨[], []⟩ [.val (.int .u8), .val (.bool), .val (.int .u64), .val (.int .u64)] [.val (.int .u64), .val (.int .i64)] n [true, true, true, true, true, true, false, true, false, true, true, true, true] ⟨[(0, .cell ⟨.int .u8, s0⟩), (1, .cell ⟨.bool, s1⟩), (2, .cell ⟨.int .u64, s2⟩), (3, .cell ⟨.int .u64, s3⟩), (10, .cell ⟨.int .i64, s10⟩), (17, .cell ⟨.int .u8, s17⟩), (33, .cell ⟨.bool, s33⟩)], []⟩
noncomputable def ref01Do_J3 (n : Nat) (s0 : Int) (s1 : Bool) (s2 : Int) (s3 : Int) (s10 : Int) (s17 : Int) (s48 : Bool) : Option (Int × Int) := cutF TT Tryz.prog ref01Do_C ref01Do_cuts Tryz.f61 (bodyOf Tryz.f61) ⟨[], []⟩ [.val (.int .u8), .val (.bool), .val (.int .u64), .val (.int .u64)] [.val (.int .u64), .val (.int .i64)] n [true, true, true, true, true, true, true, true, false, true, false, true, true, true, true] ⟨[(0, .cell ⟨.int .u8, s0⟩), (1, .cell ⟨.bool, s1⟩), (2, .cell ⟨.int .u64, s2⟩), (3, .cell ⟨.int .u64, s3⟩), (10, .cell ⟨.int .i64, s10⟩), (17, .cell ⟨.int .u8, s17⟩), (48, .cell ⟨.bool, s48⟩)], []⟩
theorem ref01Do_eq (n : Nat) (x0 : Int) (x1 : Bool) (x2 : Int) (x3 : Int) : ref01Do n x0 x1 x2 x3 =
  forkB x1
  (ref01Do_J0 n x0 x1 (bAnd .u64 x2 (4294967295 : Int)) (bAnd .u64 x3 (4294967295 : Int)) (32 : Int))
  (ref01Do_J0 n x0 x1 x2 x3 (64 : Int)) := by kernel_rfl
theorem ref01Do_J0_eq (n : Nat) (s0 : Int) (s1 : Bool) (s2 : Int) (s3 : Int) (s10 : Int) : ref01Do_J0 (n + 1) s0 s1 s2 s3 s10 =
  forkB (s0 == (1 : Int))
  (ref01Do_J1 n s1 (IntKind.u64.wrap (s2 + s3)))
  (forkB (s0 == (2 : Int))
   (ref01Do_J1 n s1 (IntKind.u64.wrap (s2 - s3)))
   (forkB (s0 == (3 : Int))
    (ref01Do_J1 n s1 (IntKind.u64.wrap (s2 * s3)))
    (forkB (s0 == (4 : Int))
     (ref01Do_J2 n s0 s1 s2 s3 s10 s0 (s0 == (4 : Int)))
     (ref01Do_J2 n s0 s1 s2 s3 s10 s0 (s0 == (5 : Int)))))) := by kernel_rfl
theorem ref01Do_J1_eq (n : Nat) (s1 : Bool) (s11 : Int) : ref01Do_J1 (n + 1) s1 s11 =
  forkB s1
  (some (bAnd .u64 s11 (4294967295 : Int), (0 : Int)))
  (some (s11, (0 : Int))) := by kernel_rfl
theorem ref01Do_J2_eq (n : Nat) (s0 : Int) (s1 : Bool) (s2 : Int) (s3 : Int) (s10 : Int) (s17 : Int) (s33 : Bool) : ref01Do_J2 (n + 1) s0 s1 s2 s3 s10 s17 s33 =
  forkB s33
  (forkB (s3 == (0 : Int))
   (some ((0 : Int), (113 : Int)))
   (if s3 = 0 then none else (forkB (s0 == (5 : Int))
    (ref01Do_J1 n s1 (IntKind.u64.wrap (s2 - (IntKind.u64.wrap ((IntKind.u64.wrap (s2.tdiv s3)) * s3)))))
    (ref01Do_J1 n s1 (IntKind.u64.wrap (s2.tdiv s3))))))
  (forkB (s17 == (6 : Int))
   (ref01Do_J3 n s0 s1 s2 s3 s10 s17 (s17 == (6 : Int)))
   (forkB (s17 == (7 : Int))
    (ref01Do_J3 n s0 s1 s2 s3 s10 s17 (s17 == (7 : Int)))
    (ref01Do_J3 n s0 s1 s2 s3 s10 s17 (s17 == (8 : Int))))) := by kernel_rfl
theorem ref01Do_J3_eq (n : Nat) (s0 : Int) (s1 : Bool) (s2 : Int) (s3 : Int) (s10 : Int) (s17 : Int) (s48 : Bool) : ref01Do_J3 (n + 1) s0 s1 s2 s3 s10 s17 s48 =
  forkB s48
  (obind (ref01_each BIG s0 s2 s3) fun y1 =>
   ref01Do_J1 n s1 y1)
  (forkB (s17 == (9 : Int))
   (if IntKind.u64.wrap s10 = 0 then none else (obind (ref01_moved BIG s2 (IntKind.i64.wrap (s3.tmod (IntKind.u64.wrap s10))) s10 false) fun y2 =>
    ref01Do_J1 n s1 y2))
   (forkB (s17 == (10 : Int))
    (if IntKind.u64.wrap s10 = 0 then none else (obind (ref01_moved BIG s2 (IntKind.i64.wrap (0 - IntKind.i64.wrap (s3.tmod (IntKind.u64.wrap s10)))) s10 false) fun y3 =>
     ref01Do_J1 n s1 y3))
    (forkB (s17 == (11 : Int))
     (if IntKind.u64.wrap s10 = 0 then none else (obind (ref01_bit BIG s2 (IntKind.i64.wrap (s10 - (1 : Int)))) fun y4 =>
      obind (ref01_moved BIG s2 (IntKind.i64.wrap (0 - IntKind.i64.wrap (s3.tmod (IntKind.u64.wrap s10)))) s10 y4) fun y5 =>
      ref01Do_J1 n s1 y5))
     (forkB (s17 == (12 : Int))
      (ref01Do_J1 n s1 s3)
      (forkB (s17 == (13 : Int))
       (ref01Do_J1 n s1 (IntKind.u64.wrap ((0 : Int) - s2)))
       (some ((0 : Int), (2 : Int)))))))) := by kernel_rfl
noncomputable def ref01Do_sp : FnSpec TT := ⟨[.val (.int .u8), .val (.bool), .val (.int .u64), .val (.int .u64)], [.val (.int .u64), .val (.int .i64)], fun x => ref01Do BIG x.1 x.2.1 x.2.2.1 x.2.2.2⟩
theorem ref01Do_ok : FnOk TT Tryz.prog 61 ref01Do_sp := fnOk_of (C := ref01Do_C) (by kernel_rfl) ref01Do_env Tryz.func61 (show Tryz.f61.body = some (bodyOf Tryz.f61) by kernel_rfl) (by kernel_rfl) (by kernel_rfl) (cuts := ref01Do_cuts) fun x y h => ⟨BIG, h⟩
def str0 : ByteArray := ⟨#[0, 1, 2, 2, 3, 3, 3, 3, 4, 4, 4, 4, 4, 4, 4, 4, 5, 5, 5, 5, 5, 5, 5, 5, 5, 5, 5, 5, 5, 5, 5, 5, 6, 6, 6, 6, 6, 6, 6, 6, 6, 6, 6, 6, 6, 6, 6, 6, 6, 6, 6, 6, 6, 6, 6, 6, 6, 6, 6, 6, 6, 6, 6, 6, 7, 7, 7, 7, 7, 7, 7, 7, 7, 7, 7, 7, 7, 7, 7, 7, 7, 7, 7, 7, 7, 7, 7, 7, 7, 7, 7, 7, 7, 7, 7, 7, 7, 7, 7, 7, 7, 7, 7, 7, 7, 7, 7, 7, 7, 7, 7, 7, 7, 7, 7, 7, 7, 7, 7, 7, 7, 7, 7, 7, 7, 7, 7, 7, 8, 8, 8, 8, 8, 8, 8, 8, 8, 8, 8, 8, 8, 8, 8, 8, 8, 8, 8, 8, 8, 8, 8, 8, 8, 8, 8, 8, 8, 8, 8, 8, 8, 8, 8, 8, 8, 8, 8, 8, 8, 8, 8, 8, 8, 8, 8, 8, 8, 8, 8, 8, 8, 8, 8, 8, 8, 8, 8, 8, 8, 8, 8, 8, 8, 8, 8, 8, 8, 8, 8, 8, 8, 8, 8, 8, 8, 8, 8, 8, 8, 8, 8, 8, 8, 8, 8, 8, 8, 8, 8, 8, 8, 8, 8, 8, 8, 8, 8, 8, 8, 8, 8, 8, 8, 8, 8, 8, 8, 8, 8, 8, 8, 8, 8, 8, 8, 8, 8, 8, 8, 8, 8, 8, 8, 8, 8, 8]⟩
noncomputable def bitsLen64_C : Ctx TT := ⟨tyOf, [], 0, [], layOf⟩
theorem bitsLen64_env : EnvOk TT Tryz.prog bitsLen64_C.E := envNil
def bitsLen64_cuts : List (Pos × Cut) := [([true], ⟨[0, 2], [], false, []⟩), ([true, true], ⟨[0, 2], [], false, []⟩), ([true, true, true], ⟨[0, 2], [], false, []⟩)]
noncomputable def bitsLen64 (n : Nat) (x0 : Int) : Option (Int) := topF TT Tryz.prog bitsLen64_C bitsLen64_cuts Tryz.f82 (bodyOf Tryz.f82) ⟨[], []⟩ [.val (.int .u64)] [.val (.int .i64)] n x0
noncomputable def bitsLen64_J0 (n : Nat) (s0 : Int) (s2 : Int) : Option (Int) := cutF TT Tryz.prog bitsLen64_C bitsLen64_cuts Tryz.f82 (bodyOf Tryz.f82) ⟨[], []⟩ [.val (.int .u64)] [.val (.int .i64)] n [true] ⟨[(0, .cell ⟨.int .u64, s0⟩), (2, .cell ⟨.int .i64, s2⟩)], []⟩
noncomputable def bitsLen64_J1 (n : Nat) (s0 : Int) (s2 : Int) : Option (Int) := cutF TT Tryz.prog bitsLen64_C bitsLen64_cuts Tryz.f82 (bodyOf Tryz.f82) ⟨[], []⟩ [.val (.int .u64)] [.val (.int .i64)] n [true, true] ⟨[(0, .cell ⟨.int .u64, s0⟩), (2, .cell ⟨.int .i64, s2⟩)], []⟩
noncomputable def bitsLen64_J2 (n : Nat) (s0 : Int) (s2 : Int) : Option (Int) := cutF TT Tryz.prog bitsLen64_C bitsLen64_cuts Tryz.f82 (bodyOf Tryz.f82) ⟨[], []⟩ [.val (.int .u64)] [.val (.int .i64)] n [true, true, true] ⟨[(0, .cell ⟨.int .u64, s0⟩), (2, .cell ⟨.int .i64, s2⟩)], []⟩
theorem bitsLen64_eq (n : Nat) (x0 : Int) : bitsLen64 n x0 =
  forkB (decide (x0 ≥ (4294967296 : Int)))
  (bitsLen64_J0 n (sShr .u64 x0 (32 : Int)) (32 : Int))
  (bitsLen64_J0 n x0 (0 : Int)) := by kernel_rfl
theorem bitsLen64_J0_eq (n : Nat) (s0 : Int) (s2 : Int) : bitsLen64_J0 (n + 1) s0 s2 =
  forkB (decide (s0 ≥ (65536 : Int)))
  (bitsLen64_J1 n (sShr .u64 s0 (16 : Int)) (IntKind.i64.wrap (s2 + (16 : Int))))
  (bitsLen64_J1 n s0 s2) := by kernel_rfl
theorem bitsLen64_J1_eq (n : Nat) (s0 : Int) (s2 : Int) : bitsLen64_J1 (n + 1) s0 s2 =
  forkB (decide (s0 ≥ (256 : Int)))
  (bitsLen64_J2 n (sShr .u64 s0 (8 : Int)) (IntKind.i64.wrap (s2 + (8 : Int))))
  (bitsLen64_J2 n s0 s2) := by kernel_rfl
theorem bitsLen64_J2_eq (n : Nat) (s0 : Int) (s2 : Int) : bitsLen64_J2 (n + 1) s0 s2 =
  strAt str0 (IntKind.u8.wrap s0) fun y1 =>
  some (IntKind.i64.wrap (s2 + (IntKind.i64.wrap y1))) := by kernel_rfl
noncomputable def bitsLen64_sp : FnSpec TT := ⟨[.val (.int .u64)], [.val (.int .i64)], fun x => bitsLen64 BIG x⟩
theorem bitsLen64_ok : FnOk TT Tryz.prog 82 bitsLen64_sp := fnOk_of (C := bitsLen64_C) (by kernel_rfl) bitsLen64_env Tryz.func82 (show Tryz.f82.body = some (bodyOf Tryz.f82) by kernel_rfl) (by kernel_rfl) (by kernel_rfl) (cuts := bitsLen64_cuts) fun x y h => ⟨BIG, h⟩
noncomputable def bitsMul64_C : Ctx TT := ⟨tyOf, [], 0, [], layOf⟩
theorem bitsMul64_env : EnvOk TT Tryz.prog bitsMul64_C.E := envNil
def bitsMul64_cuts : List (Pos × Cut) := []
noncomputable def bitsMul64 (n : Nat) (x0 : Int) (x1 : Int) : Option (Int × Int) := topF TT Tryz.prog bitsMul64_C bitsMul64_cuts Tryz.f70 (bodyOf Tryz.f70) ⟨[], []⟩ [.val (.int .u64), .val (.int .u64)] [.val (.int .u64), .val (.int .u64)] n (x0, x1)
theorem bitsMul64_eq (n : Nat) (x0 : Int) (x1 : Int) : bitsMul64 n x0 x1 =
  some (IntKind.u64.wrap ((IntKind.u64.wrap ((IntKind.u64.wrap ((sShr .u64 x0 (32 : Int)) * (sShr .u64 x1 (32 : Int)))) + (sShr .u64 (IntKind.u64.wrap ((IntKind.u64.wrap ((sShr .u64 x0 (32 : Int)) * (bAnd .u64 x1 (4294967295 : Int)))) + (sShr .u64 (IntKind.u64.wrap ((bAnd .u64 x0 (4294967295 : Int)) * (bAnd .u64 x1 (4294967295 : Int)))) (32 : Int)))) (32 : Int)))) + (sShr .u64 (IntKind.u64.wrap ((bAnd .u64 (IntKind.u64.wrap ((IntKind.u64.wrap ((sShr .u64 x0 (32 : Int)) * (bAnd .u64 x1 (4294967295 : Int)))) + (sShr .u64 (IntKind.u64.wrap ((bAnd .u64 x0 (4294967295 : Int)) * (bAnd .u64 x1 (4294967295 : Int)))) (32 : Int)))) (4294967295 : Int)) + (IntKind.u64.wrap ((bAnd .u64 x0 (4294967295 : Int)) * (sShr .u64 x1 (32 : Int)))))) (32 : Int))), IntKind.u64.wrap (x0 * x1)) := by kernel_rfl
noncomputable def bitsMul64_sp : FnSpec TT := ⟨[.val (.int .u64), .val (.int .u64)], [.val (.int .u64), .val (.int .u64)], fun x => bitsMul64 BIG x.1 x.2⟩
theorem bitsMul64_ok : FnOk TT Tryz.prog 70 bitsMul64_sp := fnOk_of (C := bitsMul64_C) (by kernel_rfl) bitsMul64_env Tryz.func70 (show Tryz.f70.body = some (bodyOf Tryz.f70) by kernel_rfl) (by kernel_rfl) (by kernel_rfl) (cuts := bitsMul64_cuts) fun x y h => ⟨BIG, h⟩
end Go.X
