/- What the functions of numbers compute. -/
import Derived.Test.YtnldbfeakocbnaaTb
namespace Go.X
open Go.RowKit Go.V Go.Proofs
noncomputable def alu_do_i1_g1_C : Ctx TT := ⟨tyOf, [], 2, [], layOf⟩
theorem alu_do_i1_g1_env : EnvOk TT Try.prog alu_do_i1_g1_C.E := envNil
def alu_do_i1_g1_cuts : List (Pos × Cut) := []
noncomputable def alu_do_i1_g1 (n : Nat) (x0 : Int) (x1 : Int) : Option (((Int × Unit) × (Int × Unit) × Unit) × (Int × Unit)) := topG TT Try.prog alu_do_i1_g1_C alu_do_i1_g1_cuts Try.f76 (bodyOf Try.f76) ⟨[], [], [], [], []⟩ [.ptr 0 81 [.val (.int .u32)], .ptr 0 81 [.val (.int .u32)]] [.blk 81 [.val (.int .u32)], .blk 81 [.val (.int .u32)]] [.val (.int .u32)] n ((x0, ()), (x1, ()), ())
theorem alu_do_i1_g1_eq (n : Nat) (x0 : Int) (x1 : Int) : alu_do_i1_g1 n x0 x1 =
  some (((x0, ()), (x1, ()), ()), (IntKind.u32.wrap (x0 + x1), ())) := by kernel_rfl
noncomputable def alu_do_i1_g1_sp : GSpec TT := ⟨[.ptr 0 81 [.val (.int .u32)], .ptr 0 81 [.val (.int .u32)]], [.blk 81 [.val (.int .u32)], .blk 81 [.val (.int .u32)]], [.val (.int .u32)], fun x => alu_do_i1_g1 BIG x.1.1 x.2.1.1⟩
theorem alu_do_i1_g1_ok : GOk TT Try.prog 76 alu_do_i1_g1_sp := gOk_of (C := alu_do_i1_g1_C) (cuts := alu_do_i1_g1_cuts) (by kernel_rfl) alu_do_i1_g1_env Try.func76 (show Try.f76.body = some (bodyOf Try.f76) by kernel_rfl) (by kernel_rfl) (by kernel_rfl) (by kernel_rfl) fun x y h => ⟨BIG, h⟩
noncomputable def alu_do_i2_g1_C : Ctx TT := ⟨tyOf, [], 2, [], layOf⟩
theorem alu_do_i2_g1_env : EnvOk TT Try.prog alu_do_i2_g1_C.E := envNil
def alu_do_i2_g1_cuts : List (Pos × Cut) := []
noncomputable def alu_do_i2_g1 (n : Nat) (x0 : Int) (x1 : Int) : Option (((Int × Unit) × (Int × Unit) × Unit) × (Int × Unit)) := topG TT Try.prog alu_do_i2_g1_C alu_do_i2_g1_cuts Try.f77 (bodyOf Try.f77) ⟨[], [], [], [], []⟩ [.ptr 0 81 [.val (.int .u32)], .ptr 0 81 [.val (.int .u32)]] [.blk 81 [.val (.int .u32)], .blk 81 [.val (.int .u32)]] [.val (.int .u32)] n ((x0, ()), (x1, ()), ())
theorem alu_do_i2_g1_eq (n : Nat) (x0 : Int) (x1 : Int) : alu_do_i2_g1 n x0 x1 =
  some (((x0, ()), (x1, ()), ()), (IntKind.u32.wrap (x0 - x1), ())) := by kernel_rfl
noncomputable def alu_do_i2_g1_sp : GSpec TT := ⟨[.ptr 0 81 [.val (.int .u32)], .ptr 0 81 [.val (.int .u32)]], [.blk 81 [.val (.int .u32)], .blk 81 [.val (.int .u32)]], [.val (.int .u32)], fun x => alu_do_i2_g1 BIG x.1.1 x.2.1.1⟩
theorem alu_do_i2_g1_ok : GOk TT Try.prog 77 alu_do_i2_g1_sp := gOk_of (C := alu_do_i2_g1_C) (cuts := alu_do_i2_g1_cuts) (by kernel_rfl) alu_do_i2_g1_env Try.func77 (show Try.f77.body = some (bodyOf Try.f77) by kernel_rfl) (by kernel_rfl) (by kernel_rfl) (by kernel_rfl) fun x y h => ⟨BIG, h⟩
noncomputable def alu_do_i3_g1_C : Ctx TT := ⟨tyOf, [], 2, [], layOf⟩
theorem alu_do_i3_g1_env : EnvOk TT Try.prog alu_do_i3_g1_C.E := envNil
def alu_do_i3_g1_cuts : List (Pos × Cut) := []
noncomputable def alu_do_i3_g1 (n : Nat) (x0 : Int) (x1 : Int) : Option (((Int × Unit) × (Int × Unit) × Unit) × (Int × Unit)) := topG TT Try.prog alu_do_i3_g1_C alu_do_i3_g1_cuts Try.f78 (bodyOf Try.f78) ⟨[], [], [], [], []⟩ [.ptr 0 81 [.val (.int .u32)], .ptr 0 81 [.val (.int .u32)]] [.blk 81 [.val (.int .u32)], .blk 81 [.val (.int .u32)]] [.val (.int .u32)] n ((x0, ()), (x1, ()), ())
theorem alu_do_i3_g1_eq (n : Nat) (x0 : Int) (x1 : Int) : alu_do_i3_g1 n x0 x1 =
  some (((x0, ()), (x1, ()), ()), (IntKind.u32.wrap (x0 * x1), ())) := by kernel_rfl
noncomputable def alu_do_i3_g1_sp : GSpec TT := ⟨[.ptr 0 81 [.val (.int .u32)], .ptr 0 81 [.val (.int .u32)]], [.blk 81 [.val (.int .u32)], .blk 81 [.val (.int .u32)]], [.val (.int .u32)], fun x => alu_do_i3_g1 BIG x.1.1 x.2.1.1⟩
theorem alu_do_i3_g1_ok : GOk TT Try.prog 78 alu_do_i3_g1_sp := gOk_of (C := alu_do_i3_g1_C) (cuts := alu_do_i3_g1_cuts) (by kernel_rfl) alu_do_i3_g1_env Try.func78 (show Try.f78.body = some (bodyOf Try.f78) by kernel_rfl) (by kernel_rfl) (by kernel_rfl) (by kernel_rfl) fun x y h => ⟨BIG, h⟩
noncomputable def alu_do_i4_g1_C : Ctx TT := ⟨tyOf, [], 2, [], layOf⟩
theorem alu_do_i4_g1_env : EnvOk TT Try.prog alu_do_i4_g1_C.E := envNil
def alu_do_i4_g1_cuts : List (Pos × Cut) := []
noncomputable def alu_do_i4_g1 (n : Nat) (x0 : Int) (x1 : Int) : Option (((Int × Unit) × (Int × Unit) × Unit) × (Int × Unit)) := topG TT Try.prog alu_do_i4_g1_C alu_do_i4_g1_cuts Try.f79 (bodyOf Try.f79) ⟨[], [], [], [], []⟩ [.ptr 0 81 [.val (.int .u32)], .ptr 0 81 [.val (.int .u32)]] [.blk 81 [.val (.int .u32)], .blk 81 [.val (.int .u32)]] [.val (.int .u32)] n ((x0, ()), (x1, ()), ())
theorem alu_do_i4_g1_eq (n : Nat) (x0 : Int) (x1 : Int) : alu_do_i4_g1 n x0 x1 =
  if x1 = 0 then none else (some (((x0, ()), (x1, ()), ()), (IntKind.u32.wrap (x0.tdiv x1), ()))) := by kernel_rfl
noncomputable def alu_do_i4_g1_sp : GSpec TT := ⟨[.ptr 0 81 [.val (.int .u32)], .ptr 0 81 [.val (.int .u32)]], [.blk 81 [.val (.int .u32)], .blk 81 [.val (.int .u32)]], [.val (.int .u32)], fun x => alu_do_i4_g1 BIG x.1.1 x.2.1.1⟩
theorem alu_do_i4_g1_ok : GOk TT Try.prog 79 alu_do_i4_g1_sp := gOk_of (C := alu_do_i4_g1_C) (cuts := alu_do_i4_g1_cuts) (by kernel_rfl) alu_do_i4_g1_env Try.func79 (show Try.f79.body = some (bodyOf Try.f79) by kernel_rfl) (by kernel_rfl) (by kernel_rfl) (by kernel_rfl) fun x y h => ⟨BIG, h⟩
noncomputable def alu_do_i5_g1_C : Ctx TT := ⟨tyOf, [], 2, [], layOf⟩
theorem alu_do_i5_g1_env : EnvOk TT Try.prog alu_do_i5_g1_C.E := envNil
def alu_do_i5_g1_cuts : List (Pos × Cut) := []
noncomputable def alu_do_i5_g1 (n : Nat) (x0 : Int) (x1 : Int) : Option (((Int × Unit) × (Int × Unit) × Unit) × (Int × Unit)) := topG TT Try.prog alu_do_i5_g1_C alu_do_i5_g1_cuts Try.f80 (bodyOf Try.f80) ⟨[], [], [], [], []⟩ [.ptr 0 81 [.val (.int .u32)], .ptr 0 81 [.val (.int .u32)]] [.blk 81 [.val (.int .u32)], .blk 81 [.val (.int .u32)]] [.val (.int .u32)] n ((x0, ()), (x1, ()), ())
theorem alu_do_i5_g1_eq (n : Nat) (x0 : Int) (x1 : Int) : alu_do_i5_g1 n x0 x1 =
  if x1 = 0 then none else (some (((x0, ()), (x1, ()), ()), (x0.tmod x1, ()))) := by kernel_rfl
noncomputable def alu_do_i5_g1_sp : GSpec TT := ⟨[.ptr 0 81 [.val (.int .u32)], .ptr 0 81 [.val (.int .u32)]], [.blk 81 [.val (.int .u32)], .blk 81 [.val (.int .u32)]], [.val (.int .u32)], fun x => alu_do_i5_g1 BIG x.1.1 x.2.1.1⟩
theorem alu_do_i5_g1_ok : GOk TT Try.prog 80 alu_do_i5_g1_sp := gOk_of (C := alu_do_i5_g1_C) (cuts := alu_do_i5_g1_cuts) (by kernel_rfl) alu_do_i5_g1_env Try.func80 (show Try.f80.body = some (bodyOf Try.f80) by kernel_rfl) (by kernel_rfl) (by kernel_rfl) (by kernel_rfl) fun x y h => ⟨BIG, h⟩
noncomputable def alu_do_i6_g1_C : Ctx TT := ⟨tyOf, [], 2, [], layOf⟩
theorem alu_do_i6_g1_env : EnvOk TT Try.prog alu_do_i6_g1_C.E := envNil
def alu_do_i6_g1_cuts : List (Pos × Cut) := []
noncomputable def alu_do_i6_g1 (n : Nat) (x0 : Int) (x1 : Int) : Option (((Int × Unit) × (Int × Unit) × Unit) × (Int × Unit)) := topG TT Try.prog alu_do_i6_g1_C alu_do_i6_g1_cuts Try.f81 (bodyOf Try.f81) ⟨[], [], [], [], []⟩ [.ptr 0 81 [.val (.int .u32)], .ptr 0 81 [.val (.int .u32)]] [.blk 81 [.val (.int .u32)], .blk 81 [.val (.int .u32)]] [.val (.int .u32)] n ((x0, ()), (x1, ()), ())
theorem alu_do_i6_g1_eq (n : Nat) (x0 : Int) (x1 : Int) : alu_do_i6_g1 n x0 x1 =
  some (((x0, ()), (x1, ()), ()), (bAnd .u32 x0 x1, ())) := by kernel_rfl
noncomputable def alu_do_i6_g1_sp : GSpec TT := ⟨[.ptr 0 81 [.val (.int .u32)], .ptr 0 81 [.val (.int .u32)]], [.blk 81 [.val (.int .u32)], .blk 81 [.val (.int .u32)]], [.val (.int .u32)], fun x => alu_do_i6_g1 BIG x.1.1 x.2.1.1⟩
theorem alu_do_i6_g1_ok : GOk TT Try.prog 81 alu_do_i6_g1_sp := gOk_of (C := alu_do_i6_g1_C) (cuts := alu_do_i6_g1_cuts) (by kernel_rfl) alu_do_i6_g1_env Try.func81 (show Try.f81.body = some (bodyOf Try.f81) by kernel_rfl) (by kernel_rfl) (by kernel_rfl) (by kernel_rfl) fun x y h => ⟨BIG, h⟩
noncomputable def alu_do_i7_g1_C : Ctx TT := ⟨tyOf, [], 2, [], layOf⟩
theorem alu_do_i7_g1_env : EnvOk TT Try.prog alu_do_i7_g1_C.E := envNil
def alu_do_i7_g1_cuts : List (Pos × Cut) := []
noncomputable def alu_do_i7_g1 (n : Nat) (x0 : Int) (x1 : Int) : Option (((Int × Unit) × (Int × Unit) × Unit) × (Int × Unit)) := topG TT Try.prog alu_do_i7_g1_C alu_do_i7_g1_cuts Try.f82 (bodyOf Try.f82) ⟨[], [], [], [], []⟩ [.ptr 0 81 [.val (.int .u32)], .ptr 0 81 [.val (.int .u32)]] [.blk 81 [.val (.int .u32)], .blk 81 [.val (.int .u32)]] [.val (.int .u32)] n ((x0, ()), (x1, ()), ())
theorem alu_do_i7_g1_eq (n : Nat) (x0 : Int) (x1 : Int) : alu_do_i7_g1 n x0 x1 =
  some (((x0, ()), (x1, ()), ()), (bOr .u32 x0 x1, ())) := by kernel_rfl
noncomputable def alu_do_i7_g1_sp : GSpec TT := ⟨[.ptr 0 81 [.val (.int .u32)], .ptr 0 81 [.val (.int .u32)]], [.blk 81 [.val (.int .u32)], .blk 81 [.val (.int .u32)]], [.val (.int .u32)], fun x => alu_do_i7_g1 BIG x.1.1 x.2.1.1⟩
theorem alu_do_i7_g1_ok : GOk TT Try.prog 82 alu_do_i7_g1_sp := gOk_of (C := alu_do_i7_g1_C) (cuts := alu_do_i7_g1_cuts) (by kernel_rfl) alu_do_i7_g1_env Try.func82 (show Try.f82.body = some (bodyOf Try.f82) by kernel_rfl) (by kernel_rfl) (by kernel_rfl) (by kernel_rfl) fun x y h => ⟨BIG, h⟩
noncomputable def alu_do_i8_g1_C : Ctx TT := ⟨tyOf, [], 2, [], layOf⟩
theorem alu_do_i8_g1_env : EnvOk TT Try.prog alu_do_i8_g1_C.E := envNil
def alu_do_i8_g1_cuts : List (Pos × Cut) := []
noncomputable def alu_do_i8_g1 (n : Nat) (x0 : Int) (x1 : Int) : Option (((Int × Unit) × (Int × Unit) × Unit) × (Int × Unit)) := topG TT Try.prog alu_do_i8_g1_C alu_do_i8_g1_cuts Try.f83 (bodyOf Try.f83) ⟨[], [], [], [], []⟩ [.ptr 0 81 [.val (.int .u32)], .ptr 0 81 [.val (.int .u32)]] [.blk 81 [.val (.int .u32)], .blk 81 [.val (.int .u32)]] [.val (.int .u32)] n ((x0, ()), (x1, ()), ())
theorem alu_do_i8_g1_eq (n : Nat) (x0 : Int) (x1 : Int) : alu_do_i8_g1 n x0 x1 =
  some (((x0, ()), (x1, ()), ()), (bXor .u32 x0 x1, ())) := by kernel_rfl
noncomputable def alu_do_i8_g1_sp : GSpec TT := ⟨[.ptr 0 81 [.val (.int .u32)], .ptr 0 81 [.val (.int .u32)]], [.blk 81 [.val (.int .u32)], .blk 81 [.val (.int .u32)]], [.val (.int .u32)], fun x => alu_do_i8_g1 BIG x.1.1 x.2.1.1⟩
theorem alu_do_i8_g1_ok : GOk TT Try.prog 83 alu_do_i8_g1_sp := gOk_of (C := alu_do_i8_g1_C) (cuts := alu_do_i8_g1_cuts) (by kernel_rfl) alu_do_i8_g1_env Try.func83 (show Try.f83.body = some (bodyOf Try.f83) by kernel_rfl) (by kernel_rfl) (by kernel_rfl) (by kernel_rfl) fun x y h => ⟨BIG, h⟩
noncomputable def alu_do_i9_g1_C : Ctx TT := ⟨tyOf, [], 3, [], layOf⟩
theorem alu_do_i9_g1_env : EnvOk TT Try.prog alu_do_i9_g1_C.E := envNil
def alu_do_i9_g1_cuts : List (Pos × Cut) := []
noncomputable def alu_do_i9_g1 (n : Nat) (x0 : Int) (x1 : Int) (x2 : Int) : Option (((Int × Unit) × (Int × Unit) × (Int × Unit) × Unit) × (Int × Unit)) := topG TT Try.prog alu_do_i9_g1_C alu_do_i9_g1_cuts Try.f84 (bodyOf Try.f84) ⟨[], [], [], [], []⟩ [.ptr 0 81 [.val (.int .u32)], .ptr 0 81 [.val (.int .u32)], .ptr 0 81 [.val (.int .u32)]] [.blk 81 [.val (.int .u32)], .blk 81 [.val (.int .u32)], .blk 81 [.val (.int .u32)]] [.val (.int .u32)] n ((x0, ()), (x1, ()), (x2, ()), ())
theorem alu_do_i9_g1_eq (n : Nat) (x0 : Int) (x1 : Int) (x2 : Int) : alu_do_i9_g1 n x0 x1 x2 =
  if x2 = 0 then none else (if x1.tmod x2 < 0 then none else (some (((x0, ()), (x1, ()), (x2, ()), ()), (sShl .u32 x0 (x1.tmod x2), ())))) := by kernel_rfl
noncomputable def alu_do_i9_g1_sp : GSpec TT := ⟨[.ptr 0 81 [.val (.int .u32)], .ptr 0 81 [.val (.int .u32)], .ptr 0 81 [.val (.int .u32)]], [.blk 81 [.val (.int .u32)], .blk 81 [.val (.int .u32)], .blk 81 [.val (.int .u32)]], [.val (.int .u32)], fun x => alu_do_i9_g1 BIG x.1.1 x.2.1.1 x.2.2.1.1⟩
theorem alu_do_i9_g1_ok : GOk TT Try.prog 84 alu_do_i9_g1_sp := gOk_of (C := alu_do_i9_g1_C) (cuts := alu_do_i9_g1_cuts) (by kernel_rfl) alu_do_i9_g1_env Try.func84 (show Try.f84.body = some (bodyOf Try.f84) by kernel_rfl) (by kernel_rfl) (by kernel_rfl) (by kernel_rfl) fun x y h => ⟨BIG, h⟩
noncomputable def alu_do_i10_g1_C : Ctx TT := ⟨tyOf, [], 3, [], layOf⟩
theorem alu_do_i10_g1_env : EnvOk TT Try.prog alu_do_i10_g1_C.E := envNil
def alu_do_i10_g1_cuts : List (Pos × Cut) := []
noncomputable def alu_do_i10_g1 (n : Nat) (x0 : Int) (x1 : Int) (x2 : Int) : Option (((Int × Unit) × (Int × Unit) × (Int × Unit) × Unit) × (Int × Unit)) := topG TT Try.prog alu_do_i10_g1_C alu_do_i10_g1_cuts Try.f85 (bodyOf Try.f85) ⟨[], [], [], [], []⟩ [.ptr 0 81 [.val (.int .u32)], .ptr 0 81 [.val (.int .u32)], .ptr 0 81 [.val (.int .u32)]] [.blk 81 [.val (.int .u32)], .blk 81 [.val (.int .u32)], .blk 81 [.val (.int .u32)]] [.val (.int .u32)] n ((x0, ()), (x1, ()), (x2, ()), ())
theorem alu_do_i10_g1_eq (n : Nat) (x0 : Int) (x1 : Int) (x2 : Int) : alu_do_i10_g1 n x0 x1 x2 =
  if x2 = 0 then none else (if x1.tmod x2 < 0 then none else (some (((x0, ()), (x1, ()), (x2, ()), ()), (sShr .u32 x0 (x1.tmod x2), ())))) := by kernel_rfl
noncomputable def alu_do_i10_g1_sp : GSpec TT := ⟨[.ptr 0 81 [.val (.int .u32)], .ptr 0 81 [.val (.int .u32)], .ptr 0 81 [.val (.int .u32)]], [.blk 81 [.val (.int .u32)], .blk 81 [.val (.int .u32)], .blk 81 [.val (.int .u32)]], [.val (.int .u32)], fun x => alu_do_i10_g1 BIG x.1.1 x.2.1.1 x.2.2.1.1⟩
theorem alu_do_i10_g1_ok : GOk TT Try.prog 85 alu_do_i10_g1_sp := gOk_of (C := alu_do_i10_g1_C) (cuts := alu_do_i10_g1_cuts) (by kernel_rfl) alu_do_i10_g1_env Try.func85 (show Try.f85.body = some (bodyOf Try.f85) by kernel_rfl) (by kernel_rfl) (by kernel_rfl) (by kernel_rfl) fun x y h => ⟨BIG, h⟩
noncomputable def alu_do_i11_g1_C : Ctx TT := ⟨tyOf, [], 3, [], layOf⟩
theorem alu_do_i11_g1_env : EnvOk TT Try.prog alu_do_i11_g1_C.E := envNil
def alu_do_i11_g1_cuts : List (Pos × Cut) := []
noncomputable def alu_do_i11_g1 (n : Nat) (x0 : Int) (x1 : Int) (x2 : Int) : Option (((Int × Unit) × (Int × Unit) × (Int × Unit) × Unit) × (Int × Unit)) := topG TT Try.prog alu_do_i11_g1_C alu_do_i11_g1_cuts Try.f86 (bodyOf Try.f86) ⟨[], [], [], [], []⟩ [.ptr 0 81 [.val (.int .u32)], .ptr 0 81 [.val (.int .u32)], .ptr 0 81 [.val (.int .u32)]] [.blk 81 [.val (.int .u32)], .blk 81 [.val (.int .u32)], .blk 81 [.val (.int .u32)]] [.val (.int .u32)] n ((x0, ()), (x1, ()), (x2, ()), ())
theorem alu_do_i11_g1_eq (n : Nat) (x0 : Int) (x1 : Int) (x2 : Int) : alu_do_i11_g1 n x0 x1 x2 =
  if x2 = 0 then none else (if x1.tmod x2 < 0 then none else (some (((x0, ()), (x1, ()), (x2, ()), ()), (IntKind.u32.wrap (sShr .i32 (IntKind.i32.wrap x0) (x1.tmod x2)), ())))) := by kernel_rfl
noncomputable def alu_do_i11_g1_sp : GSpec TT := ⟨[.ptr 0 81 [.val (.int .u32)], .ptr 0 81 [.val (.int .u32)], .ptr 0 81 [.val (.int .u32)]], [.blk 81 [.val (.int .u32)], .blk 81 [.val (.int .u32)], .blk 81 [.val (.int .u32)]], [.val (.int .u32)], fun x => alu_do_i11_g1 BIG x.1.1 x.2.1.1 x.2.2.1.1⟩
theorem alu_do_i11_g1_ok : GOk TT Try.prog 86 alu_do_i11_g1_sp := gOk_of (C := alu_do_i11_g1_C) (cuts := alu_do_i11_g1_cuts) (by kernel_rfl) alu_do_i11_g1_env Try.func86 (show Try.f86.body = some (bodyOf Try.f86) by kernel_rfl) (by kernel_rfl) (by kernel_rfl) (by kernel_rfl) fun x y h => ⟨BIG, h⟩
noncomputable def alu_do_i12_g1_C : Ctx TT := ⟨tyOf, [], 1, [], layOf⟩
theorem alu_do_i12_g1_env : EnvOk TT Try.prog alu_do_i12_g1_C.E := envNil
def alu_do_i12_g1_cuts : List (Pos × Cut) := []
noncomputable def alu_do_i12_g1 (n : Nat) (x0 : Int) : Option (((Int × Unit) × Unit) × (Int × Unit)) := topG TT Try.prog alu_do_i12_g1_C alu_do_i12_g1_cuts Try.f87 (bodyOf Try.f87) ⟨[], [], [], [], []⟩ [.ptr 0 81 [.val (.int .u32)]] [.blk 81 [.val (.int .u32)]] [.val (.int .u32)] n ((x0, ()), ())
theorem alu_do_i12_g1_eq (n : Nat) (x0 : Int) : alu_do_i12_g1 n x0 =
  some (((x0, ()), ()), (x0, ())) := by kernel_rfl
noncomputable def alu_do_i12_g1_sp : GSpec TT := ⟨[.ptr 0 81 [.val (.int .u32)]], [.blk 81 [.val (.int .u32)]], [.val (.int .u32)], fun x => alu_do_i12_g1 BIG x.1.1⟩
theorem alu_do_i12_g1_ok : GOk TT Try.prog 87 alu_do_i12_g1_sp := gOk_of (C := alu_do_i12_g1_C) (cuts := alu_do_i12_g1_cuts) (by kernel_rfl) alu_do_i12_g1_env Try.func87 (show Try.f87.body = some (bodyOf Try.f87) by kernel_rfl) (by kernel_rfl) (by kernel_rfl) (by kernel_rfl) fun x y h => ⟨BIG, h⟩
noncomputable def alu_do_i13_g1_C : Ctx TT := ⟨tyOf, [], 1, [], layOf⟩
theorem alu_do_i13_g1_env : EnvOk TT Try.prog alu_do_i13_g1_C.E := envNil
def alu_do_i13_g1_cuts : List (Pos × Cut) := []
noncomputable def alu_do_i13_g1 (n : Nat) (x0 : Int) : Option (((Int × Unit) × Unit) × (Int × Unit)) := topG TT Try.prog alu_do_i13_g1_C alu_do_i13_g1_cuts Try.f88 (bodyOf Try.f88) ⟨[], [], [], [], []⟩ [.ptr 0 81 [.val (.int .u32)]] [.blk 81 [.val (.int .u32)]] [.val (.int .u32)] n ((x0, ()), ())
theorem alu_do_i13_g1_eq (n : Nat) (x0 : Int) : alu_do_i13_g1 n x0 =
  some (((x0, ()), ()), (IntKind.u32.wrap (0 - x0), ())) := by kernel_rfl
noncomputable def alu_do_i13_g1_sp : GSpec TT := ⟨[.ptr 0 81 [.val (.int .u32)]], [.blk 81 [.val (.int .u32)]], [.val (.int .u32)], fun x => alu_do_i13_g1 BIG x.1.1⟩
theorem alu_do_i13_g1_ok : GOk TT Try.prog 88 alu_do_i13_g1_sp := gOk_of (C := alu_do_i13_g1_C) (cuts := alu_do_i13_g1_cuts) (by kernel_rfl) alu_do_i13_g1_env Try.func88 (show Try.f88.body = some (bodyOf Try.f88) by kernel_rfl) (by kernel_rfl) (by kernel_rfl) (by kernel_rfl) fun x y h => ⟨BIG, h⟩
noncomputable def alu_do_C : Ctx TT := ⟨tyOf, [(76, alu_do_i1_g1_sp.toCall (noCall TT)), (77, alu_do_i2_g1_sp.toCall (noCall TT)), (78, alu_do_i3_g1_sp.toCall (noCall TT)), (79, alu_do_i4_g1_sp.toCall (noCall TT)), (80, alu_do_i5_g1_sp.toCall (noCall TT)), (81, alu_do_i6_g1_sp.toCall (noCall TT)), (82, alu_do_i7_g1_sp.toCall (noCall TT)), (83, alu_do_i8_g1_sp.toCall (noCall TT)), (84, alu_do_i9_g1_sp.toCall (noCall TT)), (85, alu_do_i10_g1_sp.toCall (noCall TT)), (86, alu_do_i11_g1_sp.toCall (noCall TT)), (87, alu_do_i12_g1_sp.toCall (noCall TT)), (88, alu_do_i13_g1_sp.toCall (noCall TT))], 0, [], layOf⟩
theorem alu_do_env : EnvOk TT Try.prog alu_do_C.E := envG (gCall_ok alu_do_i1_g1_ok (noCall_ok 76)) (envG (gCall_ok alu_do_i2_g1_ok (noCall_ok 77)) (envG (gCall_ok alu_do_i3_g1_ok (noCall_ok 78)) (envG (gCall_ok alu_do_i4_g1_ok (noCall_ok 79)) (envG (gCall_ok alu_do_i5_g1_ok (noCall_ok 80)) (envG (gCall_ok alu_do_i6_g1_ok (noCall_ok 81)) (envG (gCall_ok alu_do_i7_g1_ok (noCall_ok 82)) (envG (gCall_ok alu_do_i8_g1_ok (noCall_ok 83)) (envG (gCall_ok alu_do_i9_g1_ok (noCall_ok 84)) (envG (gCall_ok alu_do_i10_g1_ok (noCall_ok 85)) (envG (gCall_ok alu_do_i11_g1_ok (noCall_ok 86)) (envG (gCall_ok alu_do_i12_g1_ok (noCall_ok 87)) (envG (gCall_ok alu_do_i13_g1_ok (noCall_ok 88)) (envNil)))))))))))))
def alu_do_cuts : List (Pos × Cut) := [([false, true], ⟨[0, 5, 6, 7, 21], [], false, []⟩)]
noncomputable def alu_do (n : Nat) (x0 : Int) (x1 : Int) (x2 : Int) (x3 : Int) : Option (Int × Int) := topF TT Try.prog alu_do_C alu_do_cuts Try.f74 (bodyOf Try.f74) ⟨[], []⟩ [.val (.int .u8), .val (.int .u32), .val (.int .u32), .val (.int .u32)] [.val (.int .u32), .val (.int .i64)] n (x0, x1, x2, x3)
noncomputable def alu_do_J0 (n : Nat) (s0 : Int) (s21 : Bool) (b0_0 : Int) (b1_0 : Int) (b2_0 : Int) : Option (Int × Int) := cutF TT Try.prog alu_do_C alu_do_cuts Try.f74 (bodyOf Try.f74) ⟨[], []⟩ [.val (.int .u8), .val (.int .u32), .val (.int .u32), .val (.int .u32)] [.val (.int .u32), .val (.int .i64)] n [false, true] ⟨[(0, .cell ⟨.int .u8, s0⟩), (5, .ptr 0 0), (6, .ptr 1 0), (7, .ptr 2 0), (21, .cell ⟨.bool, s21⟩)], [.blk 81 [.cell ⟨.int .u32, b0_0⟩], .blk 81 [.cell ⟨.int .u32, b1_0⟩], .blk 81 [.cell ⟨.int .u32, b2_0⟩]]⟩
theorem alu_do_eq (n : Nat) (x0 : Int) (x1 : Int) (x2 : Int) (x3 : Int) : alu_do n x0 x1 x2 x3 =
  forkB (x0 == (4 : Int))
  (alu_do_J0 n x0 (x3 == (0 : Int)) x1 x2 x3)
  (forkB (x0 == (5 : Int))
   (alu_do_J0 n x0 (x3 == (0 : Int)) x1 x2 x3)
   (alu_do_J0 n x0 false x1 x2 x3)) := by kernel_rfl
theorem alu_do_J0_eq (n : Nat) (s0 : Int) (s21 : Bool) (b0_0 : Int) (b1_0 : Int) (b2_0 : Int) : alu_do_J0 (n + 1) s0 s21 b0_0 b1_0 b2_0 =
  forkB s21
  (some ((0 : Int), (113 : Int)))
  (if s0 = (1 : Int) then (obind (alu_do_i1_g1 BIG b1_0 b2_0) fun y1 =>
    some (y1.2.1, (0 : Int))) else (if s0 = (2 : Int) then (obind (alu_do_i2_g1 BIG b1_0 b2_0) fun y2 =>
     some (y2.2.1, (0 : Int))) else (if s0 = (3 : Int) then (obind (alu_do_i3_g1 BIG b1_0 b2_0) fun y3 =>
      some (y3.2.1, (0 : Int))) else (if s0 = (4 : Int) then (obind (alu_do_i4_g1 BIG b1_0 b2_0) fun y4 =>
       some (y4.2.1, (0 : Int))) else (if s0 = (5 : Int) then (obind (alu_do_i5_g1 BIG b1_0 b2_0) fun y5 =>
        some (y5.2.1, (0 : Int))) else (if s0 = (6 : Int) then (obind (alu_do_i6_g1 BIG b1_0 b2_0) fun y6 =>
         some (y6.2.1, (0 : Int))) else (if s0 = (7 : Int) then (obind (alu_do_i7_g1 BIG b1_0 b2_0) fun y7 =>
          some (y7.2.1, (0 : Int))) else (if s0 = (8 : Int) then (obind (alu_do_i8_g1 BIG b1_0 b2_0) fun y8 =>
           some (y8.2.1, (0 : Int))) else (if s0 = (9 : Int) then (obind (alu_do_i9_g1 BIG b1_0 b2_0 b0_0) fun y9 =>
            some (y9.2.1, (0 : Int))) else (if s0 = (10 : Int) then (obind (alu_do_i10_g1 BIG b1_0 b2_0 b0_0) fun y10 =>
             some (y10.2.1, (0 : Int))) else (if s0 = (11 : Int) then (obind (alu_do_i11_g1 BIG b1_0 b2_0 b0_0) fun y11 =>
              some (y11.2.1, (0 : Int))) else (if s0 = (12 : Int) then (obind (alu_do_i12_g1 BIG b2_0) fun y12 =>
               some (y12.2.1, (0 : Int))) else (if s0 = (13 : Int) then (obind (alu_do_i13_g1 BIG b1_0) fun y13 =>
                some (y13.2.1, (0 : Int))) else (some ((0 : Int), (2 : Int)))))))))))))))) := by kernel_rfl
noncomputable def alu_do_sp : FnSpec TT := ⟨[.val (.int .u8), .val (.int .u32), .val (.int .u32), .val (.int .u32)], [.val (.int .u32), .val (.int .i64)], fun x => alu_do BIG x.1 x.2.1 x.2.2.1 x.2.2.2⟩
theorem alu_do_ok : FnOk TT Try.prog 74 alu_do_sp := fnOk_of (C := alu_do_C) (by kernel_rfl) alu_do_env Try.func74 (show Try.f74.body = some (bodyOf Try.f74) by kernel_rfl) (by kernel_rfl) (by kernel_rfl) (cuts := alu_do_cuts) fun x y h => ⟨BIG, h⟩
noncomputable def alu_do_i15_g1_C : Ctx TT := ⟨tyOf, [], 2, [], layOf⟩
theorem alu_do_i15_g1_env : EnvOk TT Try.prog alu_do_i15_g1_C.E := envNil
def alu_do_i15_g1_cuts : List (Pos × Cut) := []
noncomputable def alu_do_i15_g1 (n : Nat) (x0 : Int) (x1 : Int) : Option (((Int × Unit) × (Int × Unit) × Unit) × (Int × Unit)) := topG TT Try.prog alu_do_i15_g1_C alu_do_i15_g1_cuts Try.f89 (bodyOf Try.f89) ⟨[], [], [], [], []⟩ [.ptr 0 23 [.val (.int .u64)], .ptr 0 23 [.val (.int .u64)]] [.blk 23 [.val (.int .u64)], .blk 23 [.val (.int .u64)]] [.val (.int .u64)] n ((x0, ()), (x1, ()), ())
theorem alu_do_i15_g1_eq (n : Nat) (x0 : Int) (x1 : Int) : alu_do_i15_g1 n x0 x1 =
  some (((x0, ()), (x1, ()), ()), (IntKind.u64.wrap (x0 + x1), ())) := by kernel_rfl
noncomputable def alu_do_i15_g1_sp : GSpec TT := ⟨[.ptr 0 23 [.val (.int .u64)], .ptr 0 23 [.val (.int .u64)]], [.blk 23 [.val (.int .u64)], .blk 23 [.val (.int .u64)]], [.val (.int .u64)], fun x => alu_do_i15_g1 BIG x.1.1 x.2.1.1⟩
theorem alu_do_i15_g1_ok : GOk TT Try.prog 89 alu_do_i15_g1_sp := gOk_of (C := alu_do_i15_g1_C) (cuts := alu_do_i15_g1_cuts) (by kernel_rfl) alu_do_i15_g1_env Try.func89 (show Try.f89.body = some (bodyOf Try.f89) by kernel_rfl) (by kernel_rfl) (by kernel_rfl) (by kernel_rfl) fun x y h => ⟨BIG, h⟩
noncomputable def alu_do_i16_g1_C : Ctx TT := ⟨tyOf, [], 2, [], layOf⟩
theorem alu_do_i16_g1_env : EnvOk TT Try.prog alu_do_i16_g1_C.E := envNil
def alu_do_i16_g1_cuts : List (Pos × Cut) := []
noncomputable def alu_do_i16_g1 (n : Nat) (x0 : Int) (x1 : Int) : Option (((Int × Unit) × (Int × Unit) × Unit) × (Int × Unit)) := topG TT Try.prog alu_do_i16_g1_C alu_do_i16_g1_cuts Try.f90 (bodyOf Try.f90) ⟨[], [], [], [], []⟩ [.ptr 0 23 [.val (.int .u64)], .ptr 0 23 [.val (.int .u64)]] [.blk 23 [.val (.int .u64)], .blk 23 [.val (.int .u64)]] [.val (.int .u64)] n ((x0, ()), (x1, ()), ())
theorem alu_do_i16_g1_eq (n : Nat) (x0 : Int) (x1 : Int) : alu_do_i16_g1 n x0 x1 =
  some (((x0, ()), (x1, ()), ()), (IntKind.u64.wrap (x0 - x1), ())) := by kernel_rfl
noncomputable def alu_do_i16_g1_sp : GSpec TT := ⟨[.ptr 0 23 [.val (.int .u64)], .ptr 0 23 [.val (.int .u64)]], [.blk 23 [.val (.int .u64)], .blk 23 [.val (.int .u64)]], [.val (.int .u64)], fun x => alu_do_i16_g1 BIG x.1.1 x.2.1.1⟩
theorem alu_do_i16_g1_ok : GOk TT Try.prog 90 alu_do_i16_g1_sp := gOk_of (C := alu_do_i16_g1_C) (cuts := alu_do_i16_g1_cuts) (by kernel_rfl) alu_do_i16_g1_env Try.func90 (show Try.f90.body = some (bodyOf Try.f90) by kernel_rfl) (by kernel_rfl) (by kernel_rfl) (by kernel_rfl) fun x y h => ⟨BIG, h⟩
noncomputable def alu_do_i17_g1_C : Ctx TT := ⟨tyOf, [], 2, [], layOf⟩
theorem alu_do_i17_g1_env : EnvOk TT Try.prog alu_do_i17_g1_C.E := envNil
def alu_do_i17_g1_cuts : List (Pos × Cut) := []
noncomputable def alu_do_i17_g1 (n : Nat) (x0 : Int) (x1 : Int) : Option (((Int × Unit) × (Int × Unit) × Unit) × (Int × Unit)) := topG TT Try.prog alu_do_i17_g1_C alu_do_i17_g1_cuts Try.f91 (bodyOf Try.f91) ⟨[], [], [], [], []⟩ [.ptr 0 23 [.val (.int .u64)], .ptr 0 23 [.val (.int .u64)]] [.blk 23 [.val (.int .u64)], .blk 23 [.val (.int .u64)]] [.val (.int .u64)] n ((x0, ()), (x1, ()), ())
theorem alu_do_i17_g1_eq (n : Nat) (x0 : Int) (x1 : Int) : alu_do_i17_g1 n x0 x1 =
  some (((x0, ()), (x1, ()), ()), (IntKind.u64.wrap (x0 * x1), ())) := by kernel_rfl
noncomputable def alu_do_i17_g1_sp : GSpec TT := ⟨[.ptr 0 23 [.val (.int .u64)], .ptr 0 23 [.val (.int .u64)]], [.blk 23 [.val (.int .u64)], .blk 23 [.val (.int .u64)]], [.val (.int .u64)], fun x => alu_do_i17_g1 BIG x.1.1 x.2.1.1⟩
theorem alu_do_i17_g1_ok : GOk TT Try.prog 91 alu_do_i17_g1_sp := gOk_of (C := alu_do_i17_g1_C) (cuts := alu_do_i17_g1_cuts) (by kernel_rfl) alu_do_i17_g1_env Try.func91 (show Try.f91.body = some (bodyOf Try.f91) by kernel_rfl) (by kernel_rfl) (by kernel_rfl) (by kernel_rfl) fun x y h => ⟨BIG, h⟩
noncomputable def alu_do_i18_g1_C : Ctx TT := ⟨tyOf, [], 2, [], layOf⟩
theorem alu_do_i18_g1_env : EnvOk TT Try.prog alu_do_i18_g1_C.E := envNil
def alu_do_i18_g1_cuts : List (Pos × Cut) := []
noncomputable def alu_do_i18_g1 (n : Nat) (x0 : Int) (x1 : Int) : Option (((Int × Unit) × (Int × Unit) × Unit) × (Int × Unit)) := topG TT Try.prog alu_do_i18_g1_C alu_do_i18_g1_cuts Try.f92 (bodyOf Try.f92) ⟨[], [], [], [], []⟩ [.ptr 0 23 [.val (.int .u64)], .ptr 0 23 [.val (.int .u64)]] [.blk 23 [.val (.int .u64)], .blk 23 [.val (.int .u64)]] [.val (.int .u64)] n ((x0, ()), (x1, ()), ())
theorem alu_do_i18_g1_eq (n : Nat) (x0 : Int) (x1 : Int) : alu_do_i18_g1 n x0 x1 =
  if x1 = 0 then none else (some (((x0, ()), (x1, ()), ()), (IntKind.u64.wrap (x0.tdiv x1), ()))) := by kernel_rfl
noncomputable def alu_do_i18_g1_sp : GSpec TT := ⟨[.ptr 0 23 [.val (.int .u64)], .ptr 0 23 [.val (.int .u64)]], [.blk 23 [.val (.int .u64)], .blk 23 [.val (.int .u64)]], [.val (.int .u64)], fun x => alu_do_i18_g1 BIG x.1.1 x.2.1.1⟩
theorem alu_do_i18_g1_ok : GOk TT Try.prog 92 alu_do_i18_g1_sp := gOk_of (C := alu_do_i18_g1_C) (cuts := alu_do_i18_g1_cuts) (by kernel_rfl) alu_do_i18_g1_env Try.func92 (show Try.f92.body = some (bodyOf Try.f92) by kernel_rfl) (by kernel_rfl) (by kernel_rfl) (by kernel_rfl) fun x y h => ⟨BIG, h⟩
noncomputable def alu_do_i19_g1_C : Ctx TT := ⟨tyOf, [], 2, [], layOf⟩
theorem alu_do_i19_g1_env : EnvOk TT Try.prog alu_do_i19_g1_C.E := envNil
def alu_do_i19_g1_cuts : List (Pos × Cut) := []
noncomputable def alu_do_i19_g1 (n : Nat) (x0 : Int) (x1 : Int) : Option (((Int × Unit) × (Int × Unit) × Unit) × (Int × Unit)) := topG TT Try.prog alu_do_i19_g1_C alu_do_i19_g1_cuts Try.f93 (bodyOf Try.f93) ⟨[], [], [], [], []⟩ [.ptr 0 23 [.val (.int .u64)], .ptr 0 23 [.val (.int .u64)]] [.blk 23 [.val (.int .u64)], .blk 23 [.val (.int .u64)]] [.val (.int .u64)] n ((x0, ()), (x1, ()), ())
theorem alu_do_i19_g1_eq (n : Nat) (x0 : Int) (x1 : Int) : alu_do_i19_g1 n x0 x1 =
  if x1 = 0 then none else (some (((x0, ()), (x1, ()), ()), (x0.tmod x1, ()))) := by kernel_rfl
noncomputable def alu_do_i19_g1_sp : GSpec TT := ⟨[.ptr 0 23 [.val (.int .u64)], .ptr 0 23 [.val (.int .u64)]], [.blk 23 [.val (.int .u64)], .blk 23 [.val (.int .u64)]], [.val (.int .u64)], fun x => alu_do_i19_g1 BIG x.1.1 x.2.1.1⟩
theorem alu_do_i19_g1_ok : GOk TT Try.prog 93 alu_do_i19_g1_sp := gOk_of (C := alu_do_i19_g1_C) (cuts := alu_do_i19_g1_cuts) (by kernel_rfl) alu_do_i19_g1_env Try.func93 (show Try.f93.body = some (bodyOf Try.f93) by kernel_rfl) (by kernel_rfl) (by kernel_rfl) (by kernel_rfl) fun x y h => ⟨BIG, h⟩
noncomputable def alu_do_i20_g1_C : Ctx TT := ⟨tyOf, [], 2, [], layOf⟩
theorem alu_do_i20_g1_env : EnvOk TT Try.prog alu_do_i20_g1_C.E := envNil
def alu_do_i20_g1_cuts : List (Pos × Cut) := []
noncomputable def alu_do_i20_g1 (n : Nat) (x0 : Int) (x1 : Int) : Option (((Int × Unit) × (Int × Unit) × Unit) × (Int × Unit)) := topG TT Try.prog alu_do_i20_g1_C alu_do_i20_g1_cuts Try.f94 (bodyOf Try.f94) ⟨[], [], [], [], []⟩ [.ptr 0 23 [.val (.int .u64)], .ptr 0 23 [.val (.int .u64)]] [.blk 23 [.val (.int .u64)], .blk 23 [.val (.int .u64)]] [.val (.int .u64)] n ((x0, ()), (x1, ()), ())
theorem alu_do_i20_g1_eq (n : Nat) (x0 : Int) (x1 : Int) : alu_do_i20_g1 n x0 x1 =
  some (((x0, ()), (x1, ()), ()), (bAnd .u64 x0 x1, ())) := by kernel_rfl
noncomputable def alu_do_i20_g1_sp : GSpec TT := ⟨[.ptr 0 23 [.val (.int .u64)], .ptr 0 23 [.val (.int .u64)]], [.blk 23 [.val (.int .u64)], .blk 23 [.val (.int .u64)]], [.val (.int .u64)], fun x => alu_do_i20_g1 BIG x.1.1 x.2.1.1⟩
theorem alu_do_i20_g1_ok : GOk TT Try.prog 94 alu_do_i20_g1_sp := gOk_of (C := alu_do_i20_g1_C) (cuts := alu_do_i20_g1_cuts) (by kernel_rfl) alu_do_i20_g1_env Try.func94 (show Try.f94.body = some (bodyOf Try.f94) by kernel_rfl) (by kernel_rfl) (by kernel_rfl) (by kernel_rfl) fun x y h => ⟨BIG, h⟩
noncomputable def alu_do_i21_g1_C : Ctx TT := ⟨tyOf, [], 2, [], layOf⟩
theorem alu_do_i21_g1_env : EnvOk TT Try.prog alu_do_i21_g1_C.E := envNil
def alu_do_i21_g1_cuts : List (Pos × Cut) := []
noncomputable def alu_do_i21_g1 (n : Nat) (x0 : Int) (x1 : Int) : Option (((Int × Unit) × (Int × Unit) × Unit) × (Int × Unit)) := topG TT Try.prog alu_do_i21_g1_C alu_do_i21_g1_cuts Try.f95 (bodyOf Try.f95) ⟨[], [], [], [], []⟩ [.ptr 0 23 [.val (.int .u64)], .ptr 0 23 [.val (.int .u64)]] [.blk 23 [.val (.int .u64)], .blk 23 [.val (.int .u64)]] [.val (.int .u64)] n ((x0, ()), (x1, ()), ())
theorem alu_do_i21_g1_eq (n : Nat) (x0 : Int) (x1 : Int) : alu_do_i21_g1 n x0 x1 =
  some (((x0, ()), (x1, ()), ()), (bOr .u64 x0 x1, ())) := by kernel_rfl
noncomputable def alu_do_i21_g1_sp : GSpec TT := ⟨[.ptr 0 23 [.val (.int .u64)], .ptr 0 23 [.val (.int .u64)]], [.blk 23 [.val (.int .u64)], .blk 23 [.val (.int .u64)]], [.val (.int .u64)], fun x => alu_do_i21_g1 BIG x.1.1 x.2.1.1⟩
theorem alu_do_i21_g1_ok : GOk TT Try.prog 95 alu_do_i21_g1_sp := gOk_of (C := alu_do_i21_g1_C) (cuts := alu_do_i21_g1_cuts) (by kernel_rfl) alu_do_i21_g1_env Try.func95 (show Try.f95.body = some (bodyOf Try.f95) by kernel_rfl) (by kernel_rfl) (by kernel_rfl) (by kernel_rfl) fun x y h => ⟨BIG, h⟩
noncomputable def alu_do_i22_g1_C : Ctx TT := ⟨tyOf, [], 2, [], layOf⟩
theorem alu_do_i22_g1_env : EnvOk TT Try.prog alu_do_i22_g1_C.E := envNil
def alu_do_i22_g1_cuts : List (Pos × Cut) := []
noncomputable def alu_do_i22_g1 (n : Nat) (x0 : Int) (x1 : Int) : Option (((Int × Unit) × (Int × Unit) × Unit) × (Int × Unit)) := topG TT Try.prog alu_do_i22_g1_C alu_do_i22_g1_cuts Try.f96 (bodyOf Try.f96) ⟨[], [], [], [], []⟩ [.ptr 0 23 [.val (.int .u64)], .ptr 0 23 [.val (.int .u64)]] [.blk 23 [.val (.int .u64)], .blk 23 [.val (.int .u64)]] [.val (.int .u64)] n ((x0, ()), (x1, ()), ())
theorem alu_do_i22_g1_eq (n : Nat) (x0 : Int) (x1 : Int) : alu_do_i22_g1 n x0 x1 =
  some (((x0, ()), (x1, ()), ()), (bXor .u64 x0 x1, ())) := by kernel_rfl
noncomputable def alu_do_i22_g1_sp : GSpec TT := ⟨[.ptr 0 23 [.val (.int .u64)], .ptr 0 23 [.val (.int .u64)]], [.blk 23 [.val (.int .u64)], .blk 23 [.val (.int .u64)]], [.val (.int .u64)], fun x => alu_do_i22_g1 BIG x.1.1 x.2.1.1⟩
theorem alu_do_i22_g1_ok : GOk TT Try.prog 96 alu_do_i22_g1_sp := gOk_of (C := alu_do_i22_g1_C) (cuts := alu_do_i22_g1_cuts) (by kernel_rfl) alu_do_i22_g1_env Try.func96 (show Try.f96.body = some (bodyOf Try.f96) by kernel_rfl) (by kernel_rfl) (by kernel_rfl) (by kernel_rfl) fun x y h => ⟨BIG, h⟩
noncomputable def alu_do_i23_g1_C : Ctx TT := ⟨tyOf, [], 3, [], layOf⟩
theorem alu_do_i23_g1_env : EnvOk TT Try.prog alu_do_i23_g1_C.E := envNil
def alu_do_i23_g1_cuts : List (Pos × Cut) := []
noncomputable def alu_do_i23_g1 (n : Nat) (x0 : Int) (x1 : Int) (x2 : Int) : Option (((Int × Unit) × (Int × Unit) × (Int × Unit) × Unit) × (Int × Unit)) := topG TT Try.prog alu_do_i23_g1_C alu_do_i23_g1_cuts Try.f97 (bodyOf Try.f97) ⟨[], [], [], [], []⟩ [.ptr 0 23 [.val (.int .u64)], .ptr 0 23 [.val (.int .u64)], .ptr 0 23 [.val (.int .u64)]] [.blk 23 [.val (.int .u64)], .blk 23 [.val (.int .u64)], .blk 23 [.val (.int .u64)]] [.val (.int .u64)] n ((x0, ()), (x1, ()), (x2, ()), ())
theorem alu_do_i23_g1_eq (n : Nat) (x0 : Int) (x1 : Int) (x2 : Int) : alu_do_i23_g1 n x0 x1 x2 =
  if x2 = 0 then none else (if x1.tmod x2 < 0 then none else (some (((x0, ()), (x1, ()), (x2, ()), ()), (sShl .u64 x0 (x1.tmod x2), ())))) := by kernel_rfl
noncomputable def alu_do_i23_g1_sp : GSpec TT := ⟨[.ptr 0 23 [.val (.int .u64)], .ptr 0 23 [.val (.int .u64)], .ptr 0 23 [.val (.int .u64)]], [.blk 23 [.val (.int .u64)], .blk 23 [.val (.int .u64)], .blk 23 [.val (.int .u64)]], [.val (.int .u64)], fun x => alu_do_i23_g1 BIG x.1.1 x.2.1.1 x.2.2.1.1⟩
theorem alu_do_i23_g1_ok : GOk TT Try.prog 97 alu_do_i23_g1_sp := gOk_of (C := alu_do_i23_g1_C) (cuts := alu_do_i23_g1_cuts) (by kernel_rfl) alu_do_i23_g1_env Try.func97 (show Try.f97.body = some (bodyOf Try.f97) by kernel_rfl) (by kernel_rfl) (by kernel_rfl) (by kernel_rfl) fun x y h => ⟨BIG, h⟩
noncomputable def alu_do_i24_g1_C : Ctx TT := ⟨tyOf, [], 3, [], layOf⟩
theorem alu_do_i24_g1_env : EnvOk TT Try.prog alu_do_i24_g1_C.E := envNil
def alu_do_i24_g1_cuts : List (Pos × Cut) := []
noncomputable def alu_do_i24_g1 (n : Nat) (x0 : Int) (x1 : Int) (x2 : Int) : Option (((Int × Unit) × (Int × Unit) × (Int × Unit) × Unit) × (Int × Unit)) := topG TT Try.prog alu_do_i24_g1_C alu_do_i24_g1_cuts Try.f98 (bodyOf Try.f98) ⟨[], [], [], [], []⟩ [.ptr 0 23 [.val (.int .u64)], .ptr 0 23 [.val (.int .u64)], .ptr 0 23 [.val (.int .u64)]] [.blk 23 [.val (.int .u64)], .blk 23 [.val (.int .u64)], .blk 23 [.val (.int .u64)]] [.val (.int .u64)] n ((x0, ()), (x1, ()), (x2, ()), ())
theorem alu_do_i24_g1_eq (n : Nat) (x0 : Int) (x1 : Int) (x2 : Int) : alu_do_i24_g1 n x0 x1 x2 =
  if x2 = 0 then none else (if x1.tmod x2 < 0 then none else (some (((x0, ()), (x1, ()), (x2, ()), ()), (sShr .u64 x0 (x1.tmod x2), ())))) := by kernel_rfl
noncomputable def alu_do_i24_g1_sp : GSpec TT := ⟨[.ptr 0 23 [.val (.int .u64)], .ptr 0 23 [.val (.int .u64)], .ptr 0 23 [.val (.int .u64)]], [.blk 23 [.val (.int .u64)], .blk 23 [.val (.int .u64)], .blk 23 [.val (.int .u64)]], [.val (.int .u64)], fun x => alu_do_i24_g1 BIG x.1.1 x.2.1.1 x.2.2.1.1⟩
theorem alu_do_i24_g1_ok : GOk TT Try.prog 98 alu_do_i24_g1_sp := gOk_of (C := alu_do_i24_g1_C) (cuts := alu_do_i24_g1_cuts) (by kernel_rfl) alu_do_i24_g1_env Try.func98 (show Try.f98.body = some (bodyOf Try.f98) by kernel_rfl) (by kernel_rfl) (by kernel_rfl) (by kernel_rfl) fun x y h => ⟨BIG, h⟩
noncomputable def alu_do_i25_g1_C : Ctx TT := ⟨tyOf, [], 3, [], layOf⟩
theorem alu_do_i25_g1_env : EnvOk TT Try.prog alu_do_i25_g1_C.E := envNil
def alu_do_i25_g1_cuts : List (Pos × Cut) := []
noncomputable def alu_do_i25_g1 (n : Nat) (x0 : Int) (x1 : Int) (x2 : Int) : Option (((Int × Unit) × (Int × Unit) × (Int × Unit) × Unit) × (Int × Unit)) := topG TT Try.prog alu_do_i25_g1_C alu_do_i25_g1_cuts Try.f99 (bodyOf Try.f99) ⟨[], [], [], [], []⟩ [.ptr 0 23 [.val (.int .u64)], .ptr 0 23 [.val (.int .u64)], .ptr 0 23 [.val (.int .u64)]] [.blk 23 [.val (.int .u64)], .blk 23 [.val (.int .u64)], .blk 23 [.val (.int .u64)]] [.val (.int .u64)] n ((x0, ()), (x1, ()), (x2, ()), ())
theorem alu_do_i25_g1_eq (n : Nat) (x0 : Int) (x1 : Int) (x2 : Int) : alu_do_i25_g1 n x0 x1 x2 =
  if x2 = 0 then none else (if x1.tmod x2 < 0 then none else (some (((x0, ()), (x1, ()), (x2, ()), ()), (IntKind.u64.wrap (sShr .i64 (IntKind.i64.wrap x0) (x1.tmod x2)), ())))) := by kernel_rfl
noncomputable def alu_do_i25_g1_sp : GSpec TT := ⟨[.ptr 0 23 [.val (.int .u64)], .ptr 0 23 [.val (.int .u64)], .ptr 0 23 [.val (.int .u64)]], [.blk 23 [.val (.int .u64)], .blk 23 [.val (.int .u64)], .blk 23 [.val (.int .u64)]], [.val (.int .u64)], fun x => alu_do_i25_g1 BIG x.1.1 x.2.1.1 x.2.2.1.1⟩
theorem alu_do_i25_g1_ok : GOk TT Try.prog 99 alu_do_i25_g1_sp := gOk_of (C := alu_do_i25_g1_C) (cuts := alu_do_i25_g1_cuts) (by kernel_rfl) alu_do_i25_g1_env Try.func99 (show Try.f99.body = some (bodyOf Try.f99) by kernel_rfl) (by kernel_rfl) (by kernel_rfl) (by kernel_rfl) fun x y h => ⟨BIG, h⟩
noncomputable def alu_do_i26_g1_C : Ctx TT := ⟨tyOf, [], 1, [], layOf⟩
theorem alu_do_i26_g1_env : EnvOk TT Try.prog alu_do_i26_g1_C.E := envNil
def alu_do_i26_g1_cuts : List (Pos × Cut) := []
noncomputable def alu_do_i26_g1 (n : Nat) (x0 : Int) : Option (((Int × Unit) × Unit) × (Int × Unit)) := topG TT Try.prog alu_do_i26_g1_C alu_do_i26_g1_cuts Try.f100 (bodyOf Try.f100) ⟨[], [], [], [], []⟩ [.ptr 0 23 [.val (.int .u64)]] [.blk 23 [.val (.int .u64)]] [.val (.int .u64)] n ((x0, ()), ())
theorem alu_do_i26_g1_eq (n : Nat) (x0 : Int) : alu_do_i26_g1 n x0 =
  some (((x0, ()), ()), (x0, ())) := by kernel_rfl
noncomputable def alu_do_i26_g1_sp : GSpec TT := ⟨[.ptr 0 23 [.val (.int .u64)]], [.blk 23 [.val (.int .u64)]], [.val (.int .u64)], fun x => alu_do_i26_g1 BIG x.1.1⟩
theorem alu_do_i26_g1_ok : GOk TT Try.prog 100 alu_do_i26_g1_sp := gOk_of (C := alu_do_i26_g1_C) (cuts := alu_do_i26_g1_cuts) (by kernel_rfl) alu_do_i26_g1_env Try.func100 (show Try.f100.body = some (bodyOf Try.f100) by kernel_rfl) (by kernel_rfl) (by kernel_rfl) (by kernel_rfl) fun x y h => ⟨BIG, h⟩
noncomputable def alu_do_i27_g1_C : Ctx TT := ⟨tyOf, [], 1, [], layOf⟩
theorem alu_do_i27_g1_env : EnvOk TT Try.prog alu_do_i27_g1_C.E := envNil
def alu_do_i27_g1_cuts : List (Pos × Cut) := []
noncomputable def alu_do_i27_g1 (n : Nat) (x0 : Int) : Option (((Int × Unit) × Unit) × (Int × Unit)) := topG TT Try.prog alu_do_i27_g1_C alu_do_i27_g1_cuts Try.f101 (bodyOf Try.f101) ⟨[], [], [], [], []⟩ [.ptr 0 23 [.val (.int .u64)]] [.blk 23 [.val (.int .u64)]] [.val (.int .u64)] n ((x0, ()), ())
theorem alu_do_i27_g1_eq (n : Nat) (x0 : Int) : alu_do_i27_g1 n x0 =
  some (((x0, ()), ()), (IntKind.u64.wrap (0 - x0), ())) := by kernel_rfl
noncomputable def alu_do_i27_g1_sp : GSpec TT := ⟨[.ptr 0 23 [.val (.int .u64)]], [.blk 23 [.val (.int .u64)]], [.val (.int .u64)], fun x => alu_do_i27_g1 BIG x.1.1⟩
theorem alu_do_i27_g1_ok : GOk TT Try.prog 101 alu_do_i27_g1_sp := gOk_of (C := alu_do_i27_g1_C) (cuts := alu_do_i27_g1_cuts) (by kernel_rfl) alu_do_i27_g1_env Try.func101 (show Try.f101.body = some (bodyOf Try.f101) by kernel_rfl) (by kernel_rfl) (by kernel_rfl) (by kernel_rfl) fun x y h => ⟨BIG, h⟩
noncomputable def alu_do_i14_C : Ctx TT := ⟨tyOf, [(89, alu_do_i15_g1_sp.toCall (noCall TT)), (90, alu_do_i16_g1_sp.toCall (noCall TT)), (91, alu_do_i17_g1_sp.toCall (noCall TT)), (92, alu_do_i18_g1_sp.toCall (noCall TT)), (93, alu_do_i19_g1_sp.toCall (noCall TT)), (94, alu_do_i20_g1_sp.toCall (noCall TT)), (95, alu_do_i21_g1_sp.toCall (noCall TT)), (96, alu_do_i22_g1_sp.toCall (noCall TT)), (97, alu_do_i23_g1_sp.toCall (noCall TT)), (98, alu_do_i24_g1_sp.toCall (noCall TT)), (99, alu_do_i25_g1_sp.toCall (noCall TT)), (100, alu_do_i26_g1_sp.toCall (noCall TT)), (101, alu_do_i27_g1_sp.toCall (noCall TT))], 0, [], layOf⟩
theorem alu_do_i14_env : EnvOk TT Try.prog alu_do_i14_C.E := envG (gCall_ok alu_do_i15_g1_ok (noCall_ok 89)) (envG (gCall_ok alu_do_i16_g1_ok (noCall_ok 90)) (envG (gCall_ok alu_do_i17_g1_ok (noCall_ok 91)) (envG (gCall_ok alu_do_i18_g1_ok (noCall_ok 92)) (envG (gCall_ok alu_do_i19_g1_ok (noCall_ok 93)) (envG (gCall_ok alu_do_i20_g1_ok (noCall_ok 94)) (envG (gCall_ok alu_do_i21_g1_ok (noCall_ok 95)) (envG (gCall_ok alu_do_i22_g1_ok (noCall_ok 96)) (envG (gCall_ok alu_do_i23_g1_ok (noCall_ok 97)) (envG (gCall_ok alu_do_i24_g1_ok (noCall_ok 98)) (envG (gCall_ok alu_do_i25_g1_ok (noCall_ok 99)) (envG (gCall_ok alu_do_i26_g1_ok (noCall_ok 100)) (envG (gCall_ok alu_do_i27_g1_ok (noCall_ok 101)) (envNil)))))))))))))
def alu_do_i14_cuts : List (Pos × Cut) := [([false, true], ⟨[0, 5, 6, 7, 21], [], false, []⟩)]
noncomputable def alu_do_i14 (n : Nat) (x0 : Int) (x1 : Int) (x2 : Int) (x3 : Int) : Option (Int × Int) := topF TT Try.prog alu_do_i14_C alu_do_i14_cuts Try.f75 (bodyOf Try.f75) ⟨[], []⟩ [.val (.int .u8), .val (.int .u64), .val (.int .u64), .val (.int .u64)] [.val (.int .u64), .val (.int .i64)] n (x0, x1, x2, x3)
noncomputable def alu_do_i14_J0 (n : Nat) (s0 : Int) (s21 : Bool) (b0_0 : Int) (b1_0 : Int) (b2_0 : Int) : Option (Int × Int) := cutF TT Try.prog alu_do_i14_C alu_do_i14_cuts Try.f75 (bodyOf Try.f75) ⟨[], []⟩ [.val (.int .u8), .val (.int .u64), .val (.int .u64), .val (.int .u64)] [.val (.int .u64), .val (.int .i64)] n [false, true] ⟨[(0, .cell ⟨.int .u8, s0⟩), (5, .ptr 0 0), (6, .ptr 1 0), (7, .ptr 2 0), (21, .cell ⟨.bool, s21⟩)], [.blk 23 [.cell ⟨.int .u64, b0_0⟩], .blk 23 [.cell ⟨.int .u64, b1_0⟩], .blk 23 [.cell ⟨.int .u64, b2_0⟩]]⟩
theorem alu_do_i14_eq (n : Nat) (x0 : Int) (x1 : Int) (x2 : Int) (x3 : Int) : alu_do_i14 n x0 x1 x2 x3 =
  forkB (x0 == (4 : Int))
  (alu_do_i14_J0 n x0 (x3 == (0 : Int)) x1 x2 x3)
  (forkB (x0 == (5 : Int))
   (alu_do_i14_J0 n x0 (x3 == (0 : Int)) x1 x2 x3)
   (alu_do_i14_J0 n x0 false x1 x2 x3)) := by kernel_rfl
theorem alu_do_i14_J0_eq (n : Nat) (s0 : Int) (s21 : Bool) (b0_0 : Int) (b1_0 : Int) (b2_0 : Int) : alu_do_i14_J0 (n + 1) s0 s21 b0_0 b1_0 b2_0 =
  forkB s21
  (some ((0 : Int), (113 : Int)))
  (if s0 = (1 : Int) then (obind (alu_do_i15_g1 BIG b1_0 b2_0) fun y1 =>
    some (y1.2.1, (0 : Int))) else (if s0 = (2 : Int) then (obind (alu_do_i16_g1 BIG b1_0 b2_0) fun y2 =>
     some (y2.2.1, (0 : Int))) else (if s0 = (3 : Int) then (obind (alu_do_i17_g1 BIG b1_0 b2_0) fun y3 =>
      some (y3.2.1, (0 : Int))) else (if s0 = (4 : Int) then (obind (alu_do_i18_g1 BIG b1_0 b2_0) fun y4 =>
       some (y4.2.1, (0 : Int))) else (if s0 = (5 : Int) then (obind (alu_do_i19_g1 BIG b1_0 b2_0) fun y5 =>
        some (y5.2.1, (0 : Int))) else (if s0 = (6 : Int) then (obind (alu_do_i20_g1 BIG b1_0 b2_0) fun y6 =>
         some (y6.2.1, (0 : Int))) else (if s0 = (7 : Int) then (obind (alu_do_i21_g1 BIG b1_0 b2_0) fun y7 =>
          some (y7.2.1, (0 : Int))) else (if s0 = (8 : Int) then (obind (alu_do_i22_g1 BIG b1_0 b2_0) fun y8 =>
           some (y8.2.1, (0 : Int))) else (if s0 = (9 : Int) then (obind (alu_do_i23_g1 BIG b1_0 b2_0 b0_0) fun y9 =>
            some (y9.2.1, (0 : Int))) else (if s0 = (10 : Int) then (obind (alu_do_i24_g1 BIG b1_0 b2_0 b0_0) fun y10 =>
             some (y10.2.1, (0 : Int))) else (if s0 = (11 : Int) then (obind (alu_do_i25_g1 BIG b1_0 b2_0 b0_0) fun y11 =>
              some (y11.2.1, (0 : Int))) else (if s0 = (12 : Int) then (obind (alu_do_i26_g1 BIG b2_0) fun y12 =>
               some (y12.2.1, (0 : Int))) else (if s0 = (13 : Int) then (obind (alu_do_i27_g1 BIG b1_0) fun y13 =>
                some (y13.2.1, (0 : Int))) else (some ((0 : Int), (2 : Int)))))))))))))))) := by kernel_rfl
noncomputable def alu_do_i14_sp : FnSpec TT := ⟨[.val (.int .u8), .val (.int .u64), .val (.int .u64), .val (.int .u64)], [.val (.int .u64), .val (.int .i64)], fun x => alu_do_i14 BIG x.1 x.2.1 x.2.2.1 x.2.2.2⟩
theorem alu_do_i14_ok : FnOk TT Try.prog 75 alu_do_i14_sp := fnOk_of (C := alu_do_i14_C) (by kernel_rfl) alu_do_i14_env Try.func75 (show Try.f75.body = some (bodyOf Try.f75) by kernel_rfl) (by kernel_rfl) (by kernel_rfl) (cuts := alu_do_i14_cuts) fun x y h => ⟨BIG, h⟩
noncomputable def aluDo_C : Ctx TT := ⟨tyOf, [(74, alu_do_sp.toCall), (75, alu_do_i14_sp.toCall)], 0, [], layOf⟩
theorem aluDo_env : EnvOk TT Try.prog aluDo_C.E := envG (fnCall_ok alu_do_ok) (envG (fnCall_ok alu_do_i14_ok) (envNil))
def aluDo_cuts : List (Pos × Cut) := []
noncomputable def aluDo (n : Nat) (x0 : Int) (x1 : Bool) (x2 : Int) (x3 : Int) : Option (Int × Int) := topF TT Try.prog aluDo_C aluDo_cuts Try.f65 (bodyOf Try.f65) ⟨[], []⟩ [.val (.int .u8), .val (.bool), .val (.int .u64), .val (.int .u64)] [.val (.int .u64), .val (.int .i64)] n (x0, x1, x2, x3)
theorem aluDo_eq (n : Nat) (x0 : Int) (x1 : Bool) (x2 : Int) (x3 : Int) : aluDo n x0 x1 x2 x3 =
  forkB x1
  (obind (alu_do BIG x0 (32 : Int) (IntKind.u32.wrap x2) (IntKind.u32.wrap x3)) fun y1 =>
   some (IntKind.u64.wrap y1.1, y1.2))
  (obind (alu_do_i14 BIG x0 (64 : Int) x2 x3) fun y2 =>
   some (y2.1, y2.2)) := by kernel_rfl
noncomputable def aluDo_sp : FnSpec TT := ⟨[.val (.int .u8), .val (.bool), .val (.int .u64), .val (.int .u64)], [.val (.int .u64), .val (.int .i64)], fun x => aluDo BIG x.1 x.2.1 x.2.2.1 x.2.2.2⟩
theorem aluDo_ok : FnOk TT Try.prog 65 aluDo_sp := fnOk_of (C := aluDo_C) (by kernel_rfl) aluDo_env Try.func65 (show Try.f65.body = some (bodyOf Try.f65) by kernel_rfl) (by kernel_rfl) (by kernel_rfl) (cuts := aluDo_cuts) fun x y h => ⟨BIG, h⟩
noncomputable def ref01_bit_C : Ctx TT := ⟨tyOf, [], 0, [], layOf⟩
theorem ref01_bit_env : EnvOk TT Try.prog ref01_bit_C.E := envNil
def ref01_bit_cuts : List (Pos × Cut) := []
noncomputable def ref01_bit (n : Nat) (x0 : Int) (x1 : Int) : Option (Bool) := topF TT Try.prog ref01_bit_C ref01_bit_cuts Try.f68 (bodyOf Try.f68) ⟨[], []⟩ [.val (.int .u64), .val (.int .i64)] [.val (.bool)] n (x0, x1)
theorem ref01_bit_eq (n : Nat) (x0 : Int) (x1 : Int) : ref01_bit n x0 x1 =
  if IntKind.u64.wrap x1 < 0 then none else (some ((bAnd .u64 (sShr .u64 x0 (IntKind.u64.wrap x1)) (1 : Int)) == (1 : Int))) := by kernel_rfl
noncomputable def ref01_bit_sp : FnSpec TT := ⟨[.val (.int .u64), .val (.int .i64)], [.val (.bool)], fun x => ref01_bit BIG x.1 x.2⟩
theorem ref01_bit_ok : FnOk TT Try.prog 68 ref01_bit_sp := fnOk_of (C := ref01_bit_C) (by kernel_rfl) ref01_bit_env Try.func68 (show Try.f68.body = some (bodyOf Try.f68) by kernel_rfl) (by kernel_rfl) (by kernel_rfl) (cuts := ref01_bit_cuts) fun x y h => ⟨BIG, h⟩
noncomputable def ref01_each_C : Ctx TT := ⟨tyOf, [(68, ref01_bit_sp.toCall)], 0, [], layOf⟩
theorem ref01_each_env : EnvOk TT Try.prog ref01_each_C.E := envG (fnCall_ok ref01_bit_ok) (envNil)
def ref01_each_cuts : List (Pos × Cut) := [([false, true, false, true, true], ⟨[0, 1, 2, 7, 8], [], false, []⟩), ([true, false, false, true, false, true, true], ⟨[0, 1, 2, 7, 8], [], false, []⟩), ([true, false, false, true, false, false, true, false, true, true], ⟨[0, 1, 2, 7, 8, 9, 10, 11], [], false, []⟩), ([true, true, false, false, true, false, false, true, false, true, true], ⟨[0, 1, 2, 7, 8, 9, 10, 11], [], false, []⟩), ([true, true, true, false, false, true, false, false, true, false, true, true], ⟨[0, 1, 2, 7, 8, 11], [], false, []⟩)]
noncomputable def ref01_each (n : Nat) (x0 : Int) (x1 : Int) (x2 : Int) : Option (Int) := topF TT Try.prog ref01_each_C ref01_each_cuts Try.f66 (bodyOf Try.f66) ⟨[], []⟩ [.val (.int .u8), .val (.int .u64), .val (.int .u64)] [.val (.int .u64)] n (x0, x1, x2)
noncomputable def ref01_each_L0 (n : Nat) (s0 : Int) (s1 : Int) (s2 : Int) (s7 : Int) (s8 : Int) : Option (Int) := cutF TT Try.prog ref01_each_C ref01_each_cuts Try.f66 (bodyOf Try.f66) ⟨[], []⟩ [.val (.int .u8), .val (.int .u64), .val (.int .u64)] [.val (.int .u64)] n [false, true, false, true, true] ⟨[(0, .cell ⟨.int .u8, s0⟩), (1, .cell ⟨.int .u64, s1⟩), (2, .cell ⟨.int .u64, s2⟩), (7, .cell ⟨.int .u64, s7⟩), (8, .cell ⟨.int .i64, s8⟩)], []⟩
noncomputable def ref01_each_J2 (n : Nat) (s0 : Int) (s1 : Int) (s2 : Int) (s7 : Int) (s8 : Int) (s9 : Bool) (s10 : Bool) (s11 : Bool) : Option (Int) := cutF TT Try.prog ref01_each_C ref01_each_cuts Try.f66 (bodyOf Try.f66) ⟨[], []⟩ [.val (.int .u8), .val (.int .u64), .val (.int .u64)] [.val (.int .u64)] n [true, false, false, true, false, false, true, false, true, true] ⟨[(0, .cell ⟨.int .u8, s0⟩), (1, .cell ⟨.int .u64, s1⟩), (2, .cell ⟨.int .u64, s2⟩), (7, .cell ⟨.int .u64, s7⟩), (8, .cell ⟨.int .i64, s8⟩), (9, .cell ⟨.bool, s9⟩), (10, .cell ⟨.bool, s10⟩), (11, .cell ⟨.bool, s11⟩)], []⟩
noncomputable def ref01_each_J3 (n : Nat) (s0 : Int) (s1 : Int) (s2 : Int) (s7 : Int) (s8 : Int) (s9 : Bool) (s10 : Bool) (s11 : Bool) : Option (Int) := cutF TT Try.prog ref01_each_C ref01_each_cuts Try.f66 (bodyOf Try.f66) ⟨[], []⟩ [.val (.int .u8), .val (.int .u64), .val (.int .u64)] [.val (.int .u64)] n [true, true, false, false, true, false, false, true, false, true, true] ⟨[(0, .cell ⟨.int .u8, s0⟩), (1, .cell ⟨.int .u64, s1⟩), (2, .cell ⟨.int .u64, s2⟩), (7, .cell ⟨.int .u64, s7⟩), (8, .cell ⟨.int .i64, s8⟩), (9, .cell ⟨.bool, s9⟩), (10, .cell ⟨.bool, s10⟩), (11, .cell ⟨.bool, s11⟩)], []⟩
noncomputable def ref01_each_J4 (n : Nat) (s0 : Int) (s1 : Int) (s2 : Int) (s7 : Int) (s8 : Int) (s11 : Bool) : Option (Int) := cutF TT Try.prog ref01_each_C ref01_each_cuts Try.f66 (bodyOf Try.f66) ⟨[], []⟩ [.val (.int .u8), .val (.int .u64), .val (.int .u64)] [.val (.int .u64)] n [true, true, true, false, false, true, false, false, true, false, true, true] ⟨[(0, .cell ⟨.int .u8, s0⟩), (1, .cell ⟨.int .u64, s1⟩), (2, .cell ⟨.int .u64, s2⟩), (7, .cell ⟨.int .u64, s7⟩), (8, .cell ⟨.int .i64, s8⟩), (11, .cell ⟨.bool, s11⟩)], []⟩
noncomputable def ref01_each_J1 (n : Nat) (s0 : Int) (s1 : Int) (s2 : Int) (s7 : Int) (s8 : Int) : Option (Int) := cutF TT Try.prog ref01_each_C ref01_each_cuts Try.f66 (bodyOf Try.f66) ⟨[], []⟩ [.val (.int .u8), .val (.int .u64), .val (.int .u64)] [.val (.int .u64)] n [true, false, false, true, false, true, true] ⟨[(0, .cell ⟨.int .u8, s0⟩), (1, .cell ⟨.int .u64, s1⟩), (2, .cell ⟨.int .u64, s2⟩), (7, .cell ⟨.int .u64, s7⟩), (8, .cell ⟨.int .i64, s8⟩)], []⟩
theorem ref01_each_eq (n : Nat) (x0 : Int) (x1 : Int) (x2 : Int) : ref01_each n x0 x1 x2 =
  ref01_each_L0 n x0 x1 x2 (0 : Int) (0 : Int) := by kernel_rfl
theorem ref01_each_L0_eq (n : Nat) (s0 : Int) (s1 : Int) (s2 : Int) (s7 : Int) (s8 : Int) : ref01_each_L0 (n + 1) s0 s1 s2 s7 s8 =
  forkB (decide (s8 < (64 : Int)))
  (obind (ref01_bit BIG s1 s8) fun y1 =>
   obind (ref01_bit BIG s2 s8) fun y2 =>
   forkB y1
   (ref01_each_J2 n s0 s1 s2 s7 s8 y1 y2 y2)
   (ref01_each_J2 n s0 s1 s2 s7 s8 y1 y2 false))
  (some s7) := by kernel_rfl
theorem ref01_each_J2_eq (n : Nat) (s0 : Int) (s1 : Int) (s2 : Int) (s7 : Int) (s8 : Int) (s9 : Bool) (s10 : Bool) (s11 : Bool) : ref01_each_J2 (n + 1) s0 s1 s2 s7 s8 s9 s10 s11 =
  forkB (s0 == (7 : Int))
  (forkB s9
   (ref01_each_J3 n s0 s1 s2 s7 s8 s9 s10 true)
   (ref01_each_J3 n s0 s1 s2 s7 s8 s9 s10 s10))
  (ref01_each_J3 n s0 s1 s2 s7 s8 s9 s10 s11) := by kernel_rfl
theorem ref01_each_J3_eq (n : Nat) (s0 : Int) (s1 : Int) (s2 : Int) (s7 : Int) (s8 : Int) (s9 : Bool) (s10 : Bool) (s11 : Bool) : ref01_each_J3 (n + 1) s0 s1 s2 s7 s8 s9 s10 s11 =
  forkB (s0 == (8 : Int))
  (ref01_each_J4 n s0 s1 s2 s7 s8 (!(s9 == s10)))
  (ref01_each_J4 n s0 s1 s2 s7 s8 s11) := by kernel_rfl
theorem ref01_each_J4_eq (n : Nat) (s0 : Int) (s1 : Int) (s2 : Int) (s7 : Int) (s8 : Int) (s11 : Bool) : ref01_each_J4 (n + 1) s0 s1 s2 s7 s8 s11 =
  forkB s11
  (if IntKind.u64.wrap s8 < 0 then none else (ref01_each_J1 n s0 s1 s2 (bOr .u64 s7 (sShl .u64 (1 : Int) (IntKind.u64.wrap s8))) s8))
  (ref01_each_J1 n s0 s1 s2 s7 s8) := by kernel_rfl
theorem ref01_each_J1_eq (n : Nat) (s0 : Int) (s1 : Int) (s2 : Int) (s7 : Int) (s8 : Int) : ref01_each_J1 (n + 1) s0 s1 s2 s7 s8 =
  ref01_each_L0 n s0 s1 s2 s7 (IntKind.i64.wrap (s8 + (1 : Int))) := by kernel_rfl
noncomputable def ref01_each_sp : FnSpec TT := ⟨[.val (.int .u8), .val (.int .u64), .val (.int .u64)], [.val (.int .u64)], fun x => ref01_each BIG x.1 x.2.1 x.2.2⟩
theorem ref01_each_ok : FnOk TT Try.prog 66 ref01_each_sp := fnOk_of (C := ref01_each_C) (by kernel_rfl) ref01_each_env Try.func66 (show Try.f66.body = some (bodyOf Try.f66) by kernel_rfl) (by kernel_rfl) (by kernel_rfl) (cuts := ref01_each_cuts) fun x y h => ⟨BIG, h⟩
noncomputable def ref01_moved_C : Ctx TT := ⟨tyOf, [(68, ref01_bit_sp.toCall)], 0, [], layOf⟩
theorem ref01_moved_env : EnvOk TT Try.prog ref01_moved_C.E := envG (fnCall_ok ref01_bit_ok) (envNil)
def ref01_moved_cuts : List (Pos × Cut) := [([false, true, false, true, true], ⟨[0, 1, 2, 3, 9, 10], [], false, []⟩), ([true, false, false, true, false, true, true], ⟨[0, 1, 2, 3, 9, 10], [], false, []⟩), ([true, true, false, false, true, false, false, true, false, true, true], ⟨[0, 1, 2, 3, 9, 10, 12], [], false, []⟩), ([false, true, true, false, false, true, false, false, true, false, true, true], ⟨[0, 1, 2, 3, 9, 10, 11, 12, 28], [], false, []⟩)]
noncomputable def ref01_moved (n : Nat) (x0 : Int) (x1 : Int) (x2 : Int) (x3 : Bool) : Option (Int) := topF TT Try.prog ref01_moved_C ref01_moved_cuts Try.f67 (bodyOf Try.f67) ⟨[], []⟩ [.val (.int .u64), .val (.int .i64), .val (.int .i64), .val (.bool)] [.val (.int .u64)] n (x0, x1, x2, x3)
noncomputable def ref01_moved_L0 (n : Nat) (s0 : Int) (s1 : Int) (s2 : Int) (s3 : Bool) (s9 : Int) (s10 : Int) : Option (Int) := cutF TT Try.prog ref01_moved_C ref01_moved_cuts Try.f67 (bodyOf Try.f67) ⟨[], []⟩ [.val (.int .u64), .val (.int .i64), .val (.int .i64), .val (.bool)] [.val (.int .u64)] n [false, true, false, true, true] ⟨[(0, .cell ⟨.int .u64, s0⟩), (1, .cell ⟨.int .i64, s1⟩), (2, .cell ⟨.int .i64, s2⟩), (3, .cell ⟨.bool, s3⟩), (9, .cell ⟨.int .u64, s9⟩), (10, .cell ⟨.int .i64, s10⟩)], []⟩
noncomputable def ref01_moved_J3 (n : Nat) (s0 : Int) (s1 : Int) (s2 : Int) (s3 : Bool) (s9 : Int) (s10 : Int) (s11 : Int) (s12 : Bool) (s28 : Bool) : Option (Int) := cutF TT Try.prog ref01_moved_C ref01_moved_cuts Try.f67 (bodyOf Try.f67) ⟨[], []⟩ [.val (.int .u64), .val (.int .i64), .val (.int .i64), .val (.bool)] [.val (.int .u64)] n [false, true, true, false, false, true, false, false, true, false, true, true] ⟨[(0, .cell ⟨.int .u64, s0⟩), (1, .cell ⟨.int .i64, s1⟩), (2, .cell ⟨.int .i64, s2⟩), (3, .cell ⟨.bool, s3⟩), (9, .cell ⟨.int .u64, s9⟩), (10, .cell ⟨.int .i64, s10⟩), (11, .cell ⟨.int .i64, s11⟩), (12, .cell ⟨.bool, s12⟩), (28, .cell ⟨.bool, s28⟩)], []⟩
noncomputable def ref01_moved_J2 (n : Nat) (s0 : Int) (s1 : Int) (s2 : Int) (s3 : Bool) (s9 : Int) (s10 : Int) (s12 : Bool) : Option (Int) := cutF TT Try.prog ref01_moved_C ref01_moved_cuts Try.f67 (bodyOf Try.f67) ⟨[], []⟩ [.val (.int .u64), .val (.int .i64), .val (.int .i64), .val (.bool)] [.val (.int .u64)] n [true, true, false, false, true, false, false, true, false, true, true] ⟨[(0, .cell ⟨.int .u64, s0⟩), (1, .cell ⟨.int .i64, s1⟩), (2, .cell ⟨.int .i64, s2⟩), (3, .cell ⟨.bool, s3⟩), (9, .cell ⟨.int .u64, s9⟩), (10, .cell ⟨.int .i64, s10⟩), (12, .cell ⟨.bool, s12⟩)], []⟩
noncomputable def ref01_moved_J1 (n : Nat) (s0 : Int) (s1 : Int) (s2 : Int) (s3 : Bool) (s9 : Int) (s10 : Int) : Option (Int) := cutF TT Try.prog ref01_moved_C ref01_moved_cuts Try.f67 (bodyOf Try.f67) ⟨[], []⟩ [.val (.int .u64), .val (.int .i64), .val (.int .i64), .val (.bool)] [.val (.int .u64)] n [true, false, false, true, false, true, true] ⟨[(0, .cell ⟨.int .u64, s0⟩), (1, .cell ⟨.int .i64, s1⟩), (2, .cell ⟨.int .i64, s2⟩), (3, .cell ⟨.bool, s3⟩), (9, .cell ⟨.int .u64, s9⟩), (10, .cell ⟨.int .i64, s10⟩)], []⟩
theorem ref01_moved_eq (n : Nat) (x0 : Int) (x1 : Int) (x2 : Int) (x3 : Bool) : ref01_moved n x0 x1 x2 x3 =
  ref01_moved_L0 n x0 x1 x2 x3 (0 : Int) (0 : Int) := by kernel_rfl
theorem ref01_moved_L0_eq (n : Nat) (s0 : Int) (s1 : Int) (s2 : Int) (s3 : Bool) (s9 : Int) (s10 : Int) : ref01_moved_L0 (n + 1) s0 s1 s2 s3 s9 s10 =
  forkB (decide (s10 < s2))
  (forkB (decide ((IntKind.i64.wrap (s10 - s1)) ≥ (0 : Int)))
   (ref01_moved_J3 n s0 s1 s2 s3 s9 s10 (IntKind.i64.wrap (s10 - s1)) s3 (decide ((IntKind.i64.wrap (s10 - s1)) < s2)))
   (ref01_moved_J3 n s0 s1 s2 s3 s9 s10 (IntKind.i64.wrap (s10 - s1)) s3 false))
  (some s9) := by kernel_rfl
theorem ref01_moved_J3_eq (n : Nat) (s0 : Int) (s1 : Int) (s2 : Int) (s3 : Bool) (s9 : Int) (s10 : Int) (s11 : Int) (s12 : Bool) (s28 : Bool) : ref01_moved_J3 (n + 1) s0 s1 s2 s3 s9 s10 s11 s12 s28 =
  forkB s28
  (obind (ref01_bit BIG s0 s11) fun y1 =>
   ref01_moved_J2 n s0 s1 s2 s3 s9 s10 y1)
  (ref01_moved_J2 n s0 s1 s2 s3 s9 s10 s12) := by kernel_rfl
theorem ref01_moved_J2_eq (n : Nat) (s0 : Int) (s1 : Int) (s2 : Int) (s3 : Bool) (s9 : Int) (s10 : Int) (s12 : Bool) : ref01_moved_J2 (n + 1) s0 s1 s2 s3 s9 s10 s12 =
  forkB s12
  (if IntKind.u64.wrap s10 < 0 then none else (ref01_moved_J1 n s0 s1 s2 s3 (bOr .u64 s9 (sShl .u64 (1 : Int) (IntKind.u64.wrap s10))) s10))
  (ref01_moved_J1 n s0 s1 s2 s3 s9 s10) := by kernel_rfl
theorem ref01_moved_J1_eq (n : Nat) (s0 : Int) (s1 : Int) (s2 : Int) (s3 : Bool) (s9 : Int) (s10 : Int) : ref01_moved_J1 (n + 1) s0 s1 s2 s3 s9 s10 =
  ref01_moved_L0 n s0 s1 s2 s3 s9 (IntKind.i64.wrap (s10 + (1 : Int))) := by kernel_rfl
noncomputable def ref01_moved_sp : FnSpec TT := ⟨[.val (.int .u64), .val (.int .i64), .val (.int .i64), .val (.bool)], [.val (.int .u64)], fun x => ref01_moved BIG x.1 x.2.1 x.2.2.1 x.2.2.2⟩
theorem ref01_moved_ok : FnOk TT Try.prog 67 ref01_moved_sp := fnOk_of (C := ref01_moved_C) (by kernel_rfl) ref01_moved_env Try.func67 (show Try.f67.body = some (bodyOf Try.f67) by kernel_rfl) (by kernel_rfl) (by kernel_rfl) (cuts := ref01_moved_cuts) fun x y h => ⟨BIG, h⟩
noncomputable def ref01Do_C : Ctx TT := ⟨tyOf, [(66, ref01_each_sp.toCall), (67, ref01_moved_sp.toCall), (68, ref01_bit_sp.toCall)], 0, [], layOf⟩
theorem ref01Do_env : EnvOk TT Try.prog ref01Do_C.E := envG (fnCall_ok ref01_each_ok) (envG (fnCall_ok ref01_moved_ok) (envG (fnCall_ok ref01_bit_ok) (envNil)))
def ref01Do_cuts : List (Pos × Cut) := [([true, true], ⟨[0, 1, 2, 3, 10], [], false, []⟩), ([true, true, true, true], ⟨[1, 11], [], false, []⟩), ([true, true, true, true, true, true, false, true, false, true, true, true, true], ⟨[0, 1, 2, 3, 10, 17, 33], [], false, []⟩), ([true, true, true, true, true, true, true, true, false, true, false, true, true, true, true], ⟨[0, 1, 2, 3, 10, 17, 48], [], false, []⟩)]
noncomputable def ref01Do (n : Nat) (x0 : Int) (x1 : Bool) (x2 : Int) (x3 : Int) : Option (Int × Int) := topF TT Try.prog ref01Do_C ref01Do_cuts Try.f49 (bodyOf Try.f49) ⟨[], []⟩ [.val (.int .u8), .val (.bool), .val (.int .u64), .val (.int .u64)] [.val (.int .u64), .val (.int .i64)] n (x0, x1, x2, x3)
noncomputable def ref01Do_J0 (n : Nat) (s0 : Int) (s1 : Bool) (s2 : Int) (s3 : Int) (s10 : Int) : Option (Int × Int) := cutF TT Try.prog ref01Do_C ref01Do_cuts Try.f49 (bodyOf Try.f49) ⟨[], []⟩ [.val (.int .u8), .val (.bool), .val (.int .u64), .val (.int .u64)] [.val (.int .u64), .val (.int .i64)] n [true, true] ⟨[(0, .cell ⟨.int .u8, s0⟩), (1, .cell ⟨.bool, s1⟩), (2, .cell ⟨.int .u64, s2⟩), (3, .cell ⟨.int .u64, s3⟩), (10, .cell ⟨.int .i64, s10⟩)], []⟩
noncomputable def ref01Do_J1 (n : Nat) (s1 : Bool) (s11 : Int) : Option (Int × Int) := cutF TT Try.prog ref01Do_C ref01Do_cuts Try.f49 (bodyOf Try.f49) ⟨[], []⟩ [.val (.int .u8), .val (.bool), .val (.int .u64), .val (.int .u64)] [.val (.int .u64), .val (.int .i64)] n [true, true, true, true] ⟨[(1, .cell ⟨.bool, s1⟩), (11, .cell ⟨.int .u64, s11⟩)], []⟩
noncomputable def ref01Do_J2 (n : Nat) (s0 : Int) (s1 : Bool) (s2 : Int) (s3 : Int) (s10 : Int) (s17 : Int) (s33 : Bool) : Option (Int × Int) := cutF TT Try.prog ref01Do_C ref01Do_cuts Try.f49 (bodyOf Try.f49) ⟨[], []⟩ [.val (.int .u8), .val (.bool), .val (.int .u64), .val (.int .u64)] [.val (.int .u64), .val (.int .i64)] n [true, true, true, true, true, true, false, true, false, true, true, true, true] ⟨[(0, .cell ⟨.int .u8, s0⟩), (1, .cell ⟨.bool, s1⟩), (2, .cell ⟨.int .u64, s2⟩), (3, .cell ⟨.int .u64, s3⟩), (10, .cell ⟨.int .i64, s10⟩), (17, .cell ⟨.int .u8, s17⟩), (33, .cell ⟨.bool, s33⟩)], []⟩
noncomputable def ref01Do_J3 (n : Nat) (s0 : Int) (s1 : Bool) (s2 : Int) (s3 : Int) (s10 : Int) (s17 : Int) (s48 : Bool) : Option (Int × Int) := cutF TT Try.prog ref01Do_C ref01Do_cuts Try.f49 (bodyOf Try.f49) ⟨[], []⟩ [.val (.int .u8), .val (.bool), .val (.int .u64), .val (.int .u64)] [.val (.int .u64), .val (.int .i64)] n [true, true, true, true, true, true, true, true, false, true, false, true, true, true, true] ⟨[(0, .cell ⟨.int .u8, s0⟩), (1, .cell ⟨.bool, s1⟩), (2, .cell ⟨.int .u64, s2⟩), (3, .cell ⟨.int .u64, s3⟩), (10, .cell ⟨.int .i64, s10⟩), (17, .cell ⟨.int .u8, s17⟩), (48, .cell ⟨.bool, s48⟩)], []⟩
theorem ref01Do_eq (n : Nat) (x0 : Int) (x1 : Bool) (x2 : Int) (x3 : Int) : ref01Do n x0 x1 x2 x3 =
  forkB x1
  (ref01Do_J0 n x0 x1 (bAnd .u64 x2 (4294967295 : Int)) (bAnd .u64 x3 (4294967295 : Int)) (32 : Int))
  (ref01Do_J0 n x0 x1 x2 x3 (64 : Int)) := by kernel_rfl
theorem ref01Do_J0_eq (n : Nat) (s0 : Int) (s1 : Bool) (s2 : Int) (s3 : Int) (s10 : Int) : ref01Do_J0 (n + 1) s0 s1 s2 s3 s10 =
  forkB (s0 == (1 : Int))
  (ref01Do_J1 n s1 (IntKind.u64.wrap (s2 + s3)))
  (forkB (s0 == (2 : Int))
   (ref01Do_J1 n s1 (IntKind.u64.wrap (s2 - s3)))
   (forkB (s0 == (3 : Int))
    (ref01Do_J1 n s1 (IntKind.u64.wrap (s2 * s3)))
    (forkB (s0 == (4 : Int))
     (ref01Do_J2 n s0 s1 s2 s3 s10 s0 (s0 == (4 : Int)))
     (ref01Do_J2 n s0 s1 s2 s3 s10 s0 (s0 == (5 : Int)))))) := by kernel_rfl
theorem ref01Do_J1_eq (n : Nat) (s1 : Bool) (s11 : Int) : ref01Do_J1 (n + 1) s1 s11 =
  forkB s1
  (some (bAnd .u64 s11 (4294967295 : Int), (0 : Int)))
  (some (s11, (0 : Int))) := by kernel_rfl
theorem ref01Do_J2_eq (n : Nat) (s0 : Int) (s1 : Bool) (s2 : Int) (s3 : Int) (s10 : Int) (s17 : Int) (s33 : Bool) : ref01Do_J2 (n + 1) s0 s1 s2 s3 s10 s17 s33 =
  forkB s33
  (forkB (s3 == (0 : Int))
   (some ((0 : Int), (113 : Int)))
   (if s3 = 0 then none else (forkB (s0 == (5 : Int))
    (ref01Do_J1 n s1 (IntKind.u64.wrap (s2 - (IntKind.u64.wrap ((IntKind.u64.wrap (s2.tdiv s3)) * s3)))))
    (ref01Do_J1 n s1 (IntKind.u64.wrap (s2.tdiv s3))))))
  (forkB (s17 == (6 : Int))
   (ref01Do_J3 n s0 s1 s2 s3 s10 s17 (s17 == (6 : Int)))
   (forkB (s17 == (7 : Int))
    (ref01Do_J3 n s0 s1 s2 s3 s10 s17 (s17 == (7 : Int)))
    (ref01Do_J3 n s0 s1 s2 s3 s10 s17 (s17 == (8 : Int))))) := by kernel_rfl
theorem ref01Do_J3_eq (n : Nat) (s0 : Int) (s1 : Bool) (s2 : Int) (s3 : Int) (s10 : Int) (s17 : Int) (s48 : Bool) : ref01Do_J3 (n + 1) s0 s1 s2 s3 s10 s17 s48 =
  forkB s48
  (obind (ref01_each BIG s0 s2 s3) fun y1 =>
   ref01Do_J1 n s1 y1)
  (forkB (s17 == (9 : Int))
   (if IntKind.u64.wrap s10 = 0 then none else (obind (ref01_moved BIG s2 (IntKind.i64.wrap (s3.tmod (IntKind.u64.wrap s10))) s10 false) fun y2 =>
    ref01Do_J1 n s1 y2))
   (forkB (s17 == (10 : Int))
    (if IntKind.u64.wrap s10 = 0 then none else (obind (ref01_moved BIG s2 (IntKind.i64.wrap (0 - IntKind.i64.wrap (s3.tmod (IntKind.u64.wrap s10)))) s10 false) fun y3 =>
     ref01Do_J1 n s1 y3))
    (forkB (s17 == (11 : Int))
     (if IntKind.u64.wrap s10 = 0 then none else (obind (ref01_bit BIG s2 (IntKind.i64.wrap (s10 - (1 : Int)))) fun y4 =>
      obind (ref01_moved BIG s2 (IntKind.i64.wrap (0 - IntKind.i64.wrap (s3.tmod (IntKind.u64.wrap s10)))) s10 y4) fun y5 =>
      ref01Do_J1 n s1 y5))
     (forkB (s17 == (12 : Int))
      (ref01Do_J1 n s1 s3)
      (forkB (s17 == (13 : Int))
       (ref01Do_J1 n s1 (IntKind.u64.wrap ((0 : Int) - s2)))
       (some ((0 : Int), (2 : Int)))))))) := by kernel_rfl
noncomputable def ref01Do_sp : FnSpec TT := ⟨[.val (.int .u8), .val (.bool), .val (.int .u64), .val (.int .u64)], [.val (.int .u64), .val (.int .i64)], fun x => ref01Do BIG x.1 x.2.1 x.2.2.1 x.2.2.2⟩
theorem ref01Do_ok : FnOk TT Try.prog 49 ref01Do_sp := fnOk_of (C := ref01Do_C) (by kernel_rfl) ref01Do_env Try.func49 (show Try.f49.body = some (bodyOf Try.f49) by kernel_rfl) (by kernel_rfl) (by kernel_rfl) (cuts := ref01Do_cuts) fun x y h => ⟨BIG, h⟩
def str0 : ByteArray := ⟨#[0, 1, 2, 2, 3, 3, 3, 3, 4, 4, 4, 4, 4, 4, 4, 4, 5, 5, 5, 5, 5, 5, 5, 5, 5, 5, 5, 5, 5, 5, 5, 5, 6, 6, 6, 6, 6, 6, 6, 6, 6, 6, 6, 6, 6, 6, 6, 6, 6, 6, 6, 6, 6, 6, 6, 6, 6, 6, 6, 6, 6, 6, 6, 6, 7, 7, 7, 7, 7, 7, 7, 7, 7, 7, 7, 7, 7, 7, 7, 7, 7, 7, 7, 7, 7, 7, 7, 7, 7, 7, 7, 7, 7, 7, 7, 7, 7, 7, 7, 7, 7, 7, 7, 7, 7, 7, 7, 7, 7, 7, 7, 7, 7, 7, 7, 7, 7, 7, 7, 7, 7, 7, 7, 7, 7, 7, 7, 7, 8, 8, 8, 8, 8, 8, 8, 8, 8, 8, 8, 8, 8, 8, 8, 8, 8, 8, 8, 8, 8, 8, 8, 8, 8, 8, 8, 8, 8, 8, 8, 8, 8, 8, 8, 8, 8, 8, 8, 8, 8, 8, 8, 8, 8, 8, 8, 8, 8, 8, 8, 8, 8, 8, 8, 8, 8, 8, 8, 8, 8, 8, 8, 8, 8, 8, 8, 8, 8, 8, 8, 8, 8, 8, 8, 8, 8, 8, 8, 8, 8, 8, 8, 8, 8, 8, 8, 8, 8, 8, 8, 8, 8, 8, 8, 8, 8, 8, 8, 8, 8, 8, 8, 8, 8, 8, 8, 8, 8, 8, 8, 8, 8, 8, 8, 8, 8, 8, 8, 8, 8, 8, 8, 8, 8, 8, 8, 8]⟩
noncomputable def bitsLen64_C : Ctx TT := ⟨tyOf, [], 0, [], layOf⟩
theorem bitsLen64_env : EnvOk TT Try.prog bitsLen64_C.E := envNil
def bitsLen64_cuts : List (Pos × Cut) := [([true], ⟨[0, 2], [], false, []⟩), ([true, true], ⟨[0, 2], [], false, []⟩), ([true, true, true], ⟨[0, 2], [], false, []⟩)]
noncomputable def bitsLen64 (n : Nat) (x0 : Int) : Option (Int) := topF TT Try.prog bitsLen64_C bitsLen64_cuts Try.f73 (bodyOf Try.f73) ⟨[], []⟩ [.val (.int .u64)] [.val (.int .i64)] n x0
noncomputable def bitsLen64_J0 (n : Nat) (s0 : Int) (s2 : Int) : Option (Int) := cutF TT Try.prog bitsLen64_C bitsLen64_cuts Try.f73 (bodyOf Try.f73) ⟨[], []⟩ [.val (.int .u64)] [.val (.int .i64)] n [true] ⟨[(0, .cell ⟨.int .u64, s0⟩), (2, .cell ⟨.int .i64, s2⟩)], []⟩
noncomputable def bitsLen64_J1 (n : Nat) (s0 : Int) (s2 : Int) : Option (Int) := cutF TT Try.prog bitsLen64_C bitsLen64_cuts Try.f73 (bodyOf Try.f73) ⟨[], []⟩ [.val (.int .u64)] [.val (.int .i64)] n [true, true] ⟨[(0, .cell ⟨.int .u64, s0⟩), (2, .cell ⟨.int .i64, s2⟩)], []⟩
noncomputable def bitsLen64_J2 (n : Nat) (s0 : Int) (s2 : Int) : Option (Int) := cutF TT Try.prog bitsLen64_C bitsLen64_cuts Try.f73 (bodyOf Try.f73) ⟨[], []⟩ [.val (.int .u64)] [.val (.int .i64)] n [true, true, true] ⟨[(0, .cell ⟨.int .u64, s0⟩), (2, .cell ⟨.int .i64, s2⟩)], []⟩
theorem bitsLen64_eq (n : Nat) (x0 : Int) : bitsLen64 n x0 =
  forkB (decide (x0 ≥ (4294967296 : Int)))
  (bitsLen64_J0 n (sShr .u64 x0 (32 : Int)) (32 : Int))
  (bitsLen64_J0 n x0 (0 : Int)) := by kernel_rfl
theorem bitsLen64_J0_eq (n : Nat) (s0 : Int) (s2 : Int) : bitsLen64_J0 (n + 1) s0 s2 =
  forkB (decide (s0 ≥ (65536 : Int)))
  (bitsLen64_J1 n (sShr .u64 s0 (16 : Int)) (IntKind.i64.wrap (s2 + (16 : Int))))
  (bitsLen64_J1 n s0 s2) := by kernel_rfl
theorem bitsLen64_J1_eq (n : Nat) (s0 : Int) (s2 : Int) : bitsLen64_J1 (n + 1) s0 s2 =
  forkB (decide (s0 ≥ (256 : Int)))
  (bitsLen64_J2 n (sShr .u64 s0 (8 : Int)) (IntKind.i64.wrap (s2 + (8 : Int))))
  (bitsLen64_J2 n s0 s2) := by kernel_rfl
theorem bitsLen64_J2_eq (n : Nat) (s0 : Int) (s2 : Int) : bitsLen64_J2 (n + 1) s0 s2 =
  strAt str0 (IntKind.u8.wrap s0) fun y1 =>
  some (IntKind.i64.wrap (s2 + (IntKind.i64.wrap y1))) := by kernel_rfl
noncomputable def bitsLen64_sp : FnSpec TT := ⟨[.val (.int .u64)], [.val (.int .i64)], fun x => bitsLen64 BIG x⟩
theorem bitsLen64_ok : FnOk TT Try.prog 73 bitsLen64_sp := fnOk_of (C := bitsLen64_C) (by kernel_rfl) bitsLen64_env Try.func73 (show Try.f73.body = some (bodyOf Try.f73) by kernel_rfl) (by kernel_rfl) (by kernel_rfl) (cuts := bitsLen64_cuts) fun x y h => ⟨BIG, h⟩
noncomputable def bitsMul64_C : Ctx TT := ⟨tyOf, [], 0, [], layOf⟩
theorem bitsMul64_env : EnvOk TT Try.prog bitsMul64_C.E := envNil
def bitsMul64_cuts : List (Pos × Cut) := []
noncomputable def bitsMul64 (n : Nat) (x0 : Int) (x1 : Int) : Option (Int × Int) := topF TT Try.prog bitsMul64_C bitsMul64_cuts Try.f59 (bodyOf Try.f59) ⟨[], []⟩ [.val (.int .u64), .val (.int .u64)] [.val (.int .u64), .val (.int .u64)] n (x0, x1)
theorem bitsMul64_eq (n : Nat) (x0 : Int) (x1 : Int) : bitsMul64 n x0 x1 =
  some (IntKind.u64.wrap ((IntKind.u64.wrap ((IntKind.u64.wrap ((sShr .u64 x0 (32 : Int)) * (sShr .u64 x1 (32 : Int)))) + (sShr .u64 (IntKind.u64.wrap ((IntKind.u64.wrap ((sShr .u64 x0 (32 : Int)) * (bAnd .u64 x1 (4294967295 : Int)))) + (sShr .u64 (IntKind.u64.wrap ((bAnd .u64 x0 (4294967295 : Int)) * (bAnd .u64 x1 (4294967295 : Int)))) (32 : Int)))) (32 : Int)))) + (sShr .u64 (IntKind.u64.wrap ((bAnd .u64 (IntKind.u64.wrap ((IntKind.u64.wrap ((sShr .u64 x0 (32 : Int)) * (bAnd .u64 x1 (4294967295 : Int)))) + (sShr .u64 (IntKind.u64.wrap ((bAnd .u64 x0 (4294967295 : Int)) * (bAnd .u64 x1 (4294967295 : Int)))) (32 : Int)))) (4294967295 : Int)) + (IntKind.u64.wrap ((bAnd .u64 x0 (4294967295 : Int)) * (sShr .u64 x1 (32 : Int)))))) (32 : Int))), IntKind.u64.wrap (x0 * x1)) := by kernel_rfl
noncomputable def bitsMul64_sp : FnSpec TT := ⟨[.val (.int .u64), .val (.int .u64)], [.val (.int .u64), .val (.int .u64)], fun x => bitsMul64 BIG x.1 x.2⟩
theorem bitsMul64_ok : FnOk TT Try.prog 59 bitsMul64_sp := fnOk_of (C := bitsMul64_C) (by kernel_rfl) bitsMul64_env Try.func59 (show Try.f59.body = some (bodyOf Try.f59) by kernel_rfl) (by kernel_rfl) (by kernel_rfl) (cuts := bitsMul64_cuts) fun x y h => ⟨BIG, h⟩
end Go.X
