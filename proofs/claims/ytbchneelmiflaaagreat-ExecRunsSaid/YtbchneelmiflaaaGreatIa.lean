import Derived.Test.YtbchneelmiflaaaGreatIp
namespace Go.X
open Go.RowKit Go.V Go.Proofs Tryz
noncomputable section
abbrev ci (x : Int) : AV TT.U := .cell ⟨.int .i64, x⟩
abbrev cb (x : Bool) : AV TT.U := .cell ⟨.bool, x⟩
abbrev cu8 (x : Int) : AV TT.U := .cell ⟨.int .u8, x⟩
abbrev cu32 (x : Int) : AV TT.U := .cell ⟨.int .u32, x⟩
abbrev cu64 (x : Int) : AV TT.U := .cell ⟨.int .u64, x⟩
def qcw_C : Ctx TT := ⟨tyOf, [], 2, [], layOf⟩
theorem qcw_env : EnvOk TT prog qcw_C.E := envNil
def qcw_cuts : List (Pos × Cut) := []
def qcw (n : Nat) (x0 x1 : Int) : Option (((Int × Unit) × (Int × Unit) × Unit) × (Int × Unit)) := topG TT prog qcw_C qcw_cuts f97 (bodyOf f97) ⟨[], [], [], [], []⟩ [.ptr 0 91 [.val (.int .u32)], .ptr 0 91 [.val (.int .u32)]] [.blk 91 [.val (.int .u32)], .blk 91 [.val (.int .u32)]] [.val (.int .u32)] n ((x0, ()), (x1, ()), ())
theorem qcw_eq (n : Nat) (x0 x1) : qcw n x0 x1 = some (((x0, ()), (x1, ()), ()), (IntKind.u32.wrap (x0 + x1), ())) := by kernel_rfl
def qcw_sp : GSpec TT := ⟨[.ptr 0 91 [.val (.int .u32)], .ptr 0 91 [.val (.int .u32)]], [.blk 91 [.val (.int .u32)], .blk 91 [.val (.int .u32)]], [.val (.int .u32)], fun x => qcw BIG x.1.1 x.2.1.1⟩
theorem qcw_ok : GOk TT prog 97 qcw_sp := gOk_of (C := qcw_C) (cuts := qcw_cuts) (by kernel_rfl) qcw_env func97 (show f97.body = some (bodyOf f97) by kernel_rfl) (by kernel_rfl) (by kernel_rfl) (by kernel_rfl) fun x y h => ⟨BIG, h⟩
def qcx_C : Ctx TT := ⟨tyOf, [], 2, [], layOf⟩
theorem qcx_env : EnvOk TT prog qcx_C.E := envNil
def qcx_cuts : List (Pos × Cut) := []
def qcx (n : Nat) (x0 x1 : Int) : Option (((Int × Unit) × (Int × Unit) × Unit) × (Int × Unit)) := topG TT prog qcx_C qcx_cuts f98 (bodyOf f98) ⟨[], [], [], [], []⟩ [.ptr 0 91 [.val (.int .u32)], .ptr 0 91 [.val (.int .u32)]] [.blk 91 [.val (.int .u32)], .blk 91 [.val (.int .u32)]] [.val (.int .u32)] n ((x0, ()), (x1, ()), ())
theorem qcx_eq (n : Nat) (x0 x1) : qcx n x0 x1 = some (((x0, ()), (x1, ()), ()), (IntKind.u32.wrap (x0 - x1), ())) := by kernel_rfl
def qcx_sp : GSpec TT := ⟨[.ptr 0 91 [.val (.int .u32)], .ptr 0 91 [.val (.int .u32)]], [.blk 91 [.val (.int .u32)], .blk 91 [.val (.int .u32)]], [.val (.int .u32)], fun x => qcx BIG x.1.1 x.2.1.1⟩
theorem qcx_ok : GOk TT prog 98 qcx_sp := gOk_of (C := qcx_C) (cuts := qcx_cuts) (by kernel_rfl) qcx_env func98 (show f98.body = some (bodyOf f98) by kernel_rfl) (by kernel_rfl) (by kernel_rfl) (by kernel_rfl) fun x y h => ⟨BIG, h⟩
def qcy_C : Ctx TT := ⟨tyOf, [], 2, [], layOf⟩
theorem qcy_env : EnvOk TT prog qcy_C.E := envNil
def qcy_cuts : List (Pos × Cut) := []
def qcy (n : Nat) (x0 x1 : Int) : Option (((Int × Unit) × (Int × Unit) × Unit) × (Int × Unit)) := topG TT prog qcy_C qcy_cuts f99 (bodyOf f99) ⟨[], [], [], [], []⟩ [.ptr 0 91 [.val (.int .u32)], .ptr 0 91 [.val (.int .u32)]] [.blk 91 [.val (.int .u32)], .blk 91 [.val (.int .u32)]] [.val (.int .u32)] n ((x0, ()), (x1, ()), ())
theorem qcy_eq (n : Nat) (x0 x1) : qcy n x0 x1 = some (((x0, ()), (x1, ()), ()), (IntKind.u32.wrap (x0 * x1), ())) := by kernel_rfl
def qcy_sp : GSpec TT := ⟨[.ptr 0 91 [.val (.int .u32)], .ptr 0 91 [.val (.int .u32)]], [.blk 91 [.val (.int .u32)], .blk 91 [.val (.int .u32)]], [.val (.int .u32)], fun x => qcy BIG x.1.1 x.2.1.1⟩
theorem qcy_ok : GOk TT prog 99 qcy_sp := gOk_of (C := qcy_C) (cuts := qcy_cuts) (by kernel_rfl) qcy_env func99 (show f99.body = some (bodyOf f99) by kernel_rfl) (by kernel_rfl) (by kernel_rfl) (by kernel_rfl) fun x y h => ⟨BIG, h⟩
def qcz_C : Ctx TT := ⟨tyOf, [], 2, [], layOf⟩
theorem qcz_env : EnvOk TT prog qcz_C.E := envNil
def qcz_cuts : List (Pos × Cut) := []
def qcz (n : Nat) (x0 x1 : Int) : Option (((Int × Unit) × (Int × Unit) × Unit) × (Int × Unit)) := topG TT prog qcz_C qcz_cuts f100 (bodyOf f100) ⟨[], [], [], [], []⟩ [.ptr 0 91 [.val (.int .u32)], .ptr 0 91 [.val (.int .u32)]] [.blk 91 [.val (.int .u32)], .blk 91 [.val (.int .u32)]] [.val (.int .u32)] n ((x0, ()), (x1, ()), ())
theorem qcz_eq (n : Nat) (x0 x1) : qcz n x0 x1 = if x1 = 0 then none else (some (((x0, ()), (x1, ()), ()), (IntKind.u32.wrap (x0.tdiv x1), ()))) := by kernel_rfl
def qcz_sp : GSpec TT := ⟨[.ptr 0 91 [.val (.int .u32)], .ptr 0 91 [.val (.int .u32)]], [.blk 91 [.val (.int .u32)], .blk 91 [.val (.int .u32)]], [.val (.int .u32)], fun x => qcz BIG x.1.1 x.2.1.1⟩
theorem qcz_ok : GOk TT prog 100 qcz_sp := gOk_of (C := qcz_C) (cuts := qcz_cuts) (by kernel_rfl) qcz_env func100 (show f100.body = some (bodyOf f100) by kernel_rfl) (by kernel_rfl) (by kernel_rfl) (by kernel_rfl) fun x y h => ⟨BIG, h⟩
def qda_C : Ctx TT := ⟨tyOf, [], 2, [], layOf⟩
theorem qda_env : EnvOk TT prog qda_C.E := envNil
def qda_cuts : List (Pos × Cut) := []
def qda (n : Nat) (x0 x1 : Int) : Option (((Int × Unit) × (Int × Unit) × Unit) × (Int × Unit)) := topG TT prog qda_C qda_cuts f101 (bodyOf f101) ⟨[], [], [], [], []⟩ [.ptr 0 91 [.val (.int .u32)], .ptr 0 91 [.val (.int .u32)]] [.blk 91 [.val (.int .u32)], .blk 91 [.val (.int .u32)]] [.val (.int .u32)] n ((x0, ()), (x1, ()), ())
theorem qda_eq (n : Nat) (x0 x1) : qda n x0 x1 = if x1 = 0 then none else (some (((x0, ()), (x1, ()), ()), (x0.tmod x1, ()))) := by kernel_rfl
def qda_sp : GSpec TT := ⟨[.ptr 0 91 [.val (.int .u32)], .ptr 0 91 [.val (.int .u32)]], [.blk 91 [.val (.int .u32)], .blk 91 [.val (.int .u32)]], [.val (.int .u32)], fun x => qda BIG x.1.1 x.2.1.1⟩
theorem qda_ok : GOk TT prog 101 qda_sp := gOk_of (C := qda_C) (cuts := qda_cuts) (by kernel_rfl) qda_env func101 (show f101.body = some (bodyOf f101) by kernel_rfl) (by kernel_rfl) (by kernel_rfl) (by kernel_rfl) fun x y h => ⟨BIG, h⟩
def qdb_C : Ctx TT := ⟨tyOf, [], 2, [], layOf⟩
theorem qdb_env : EnvOk TT prog qdb_C.E := envNil
def qdb_cuts : List (Pos × Cut) := []
def qdb (n : Nat) (x0 x1 : Int) : Option (((Int × Unit) × (Int × Unit) × Unit) × (Int × Unit)) := topG TT prog qdb_C qdb_cuts f102 (bodyOf f102) ⟨[], [], [], [], []⟩ [.ptr 0 91 [.val (.int .u32)], .ptr 0 91 [.val (.int .u32)]] [.blk 91 [.val (.int .u32)], .blk 91 [.val (.int .u32)]] [.val (.int .u32)] n ((x0, ()), (x1, ()), ())
theorem qdb_eq (n : Nat) (x0 x1) : qdb n x0 x1 = some (((x0, ()), (x1, ()), ()), (bAnd .u32 x0 x1, ())) := by kernel_rfl
def qdb_sp : GSpec TT := ⟨[.ptr 0 91 [.val (.int .u32)], .ptr 0 91 [.val (.int .u32)]], [.blk 91 [.val (.int .u32)], .blk 91 [.val (.int .u32)]], [.val (.int .u32)], fun x => qdb BIG x.1.1 x.2.1.1⟩
theorem qdb_ok : GOk TT prog 102 qdb_sp := gOk_of (C := qdb_C) (cuts := qdb_cuts) (by kernel_rfl) qdb_env func102 (show f102.body = some (bodyOf f102) by kernel_rfl) (by kernel_rfl) (by kernel_rfl) (by kernel_rfl) fun x y h => ⟨BIG, h⟩
def qdc_C : Ctx TT := ⟨tyOf, [], 2, [], layOf⟩
theorem qdc_env : EnvOk TT prog qdc_C.E := envNil
def qdc_cuts : List (Pos × Cut) := []
def qdc (n : Nat) (x0 x1 : Int) : Option (((Int × Unit) × (Int × Unit) × Unit) × (Int × Unit)) := topG TT prog qdc_C qdc_cuts f103 (bodyOf f103) ⟨[], [], [], [], []⟩ [.ptr 0 91 [.val (.int .u32)], .ptr 0 91 [.val (.int .u32)]] [.blk 91 [.val (.int .u32)], .blk 91 [.val (.int .u32)]] [.val (.int .u32)] n ((x0, ()), (x1, ()), ())
theorem qdc_eq (n : Nat) (x0 x1) : qdc n x0 x1 = some (((x0, ()), (x1, ()), ()), (bOr .u32 x0 x1, ())) := by kernel_rfl
def qdc_sp : GSpec TT := ⟨[.ptr 0 91 [.val (.int .u32)], .ptr 0 91 [.val (.int .u32)]], [.blk 91 [.val (.int .u32)], .blk 91 [.val (.int .u32)]], [.val (.int .u32)], fun x => qdc BIG x.1.1 x.2.1.1⟩
theorem qdc_ok : GOk TT prog 103 qdc_sp := gOk_of (C := qdc_C) (cuts := qdc_cuts) (by kernel_rfl) qdc_env func103 (show f103.body = some (bodyOf f103) by kernel_rfl) (by kernel_rfl) (by kernel_rfl) (by kernel_rfl) fun x y h => ⟨BIG, h⟩
def qdd_C : Ctx TT := ⟨tyOf, [], 2, [], layOf⟩
theorem qdd_env : EnvOk TT prog qdd_C.E := envNil
def qdd_cuts : List (Pos × Cut) := []
def qdd (n : Nat) (x0 x1 : Int) : Option (((Int × Unit) × (Int × Unit) × Unit) × (Int × Unit)) := topG TT prog qdd_C qdd_cuts f104 (bodyOf f104) ⟨[], [], [], [], []⟩ [.ptr 0 91 [.val (.int .u32)], .ptr 0 91 [.val (.int .u32)]] [.blk 91 [.val (.int .u32)], .blk 91 [.val (.int .u32)]] [.val (.int .u32)] n ((x0, ()), (x1, ()), ())
theorem qdd_eq (n : Nat) (x0 x1) : qdd n x0 x1 = some (((x0, ()), (x1, ()), ()), (bXor .u32 x0 x1, ())) := by kernel_rfl
def qdd_sp : GSpec TT := ⟨[.ptr 0 91 [.val (.int .u32)], .ptr 0 91 [.val (.int .u32)]], [.blk 91 [.val (.int .u32)], .blk 91 [.val (.int .u32)]], [.val (.int .u32)], fun x => qdd BIG x.1.1 x.2.1.1⟩
theorem qdd_ok : GOk TT prog 104 qdd_sp := gOk_of (C := qdd_C) (cuts := qdd_cuts) (by kernel_rfl) qdd_env func104 (show f104.body = some (bodyOf f104) by kernel_rfl) (by kernel_rfl) (by kernel_rfl) (by kernel_rfl) fun x y h => ⟨BIG, h⟩
def qde_C : Ctx TT := ⟨tyOf, [], 3, [], layOf⟩
theorem qde_env : EnvOk TT prog qde_C.E := envNil
def qde_cuts : List (Pos × Cut) := []
def qde (n : Nat) (x0 x1 x2 : Int) : Option (((Int × Unit) × (Int × Unit) × (Int × Unit) × Unit) × (Int × Unit)) := topG TT prog qde_C qde_cuts f105 (bodyOf f105) ⟨[], [], [], [], []⟩ [.ptr 0 91 [.val (.int .u32)], .ptr 0 91 [.val (.int .u32)], .ptr 0 91 [.val (.int .u32)]] [.blk 91 [.val (.int .u32)], .blk 91 [.val (.int .u32)], .blk 91 [.val (.int .u32)]] [.val (.int .u32)] n ((x0, ()), (x1, ()), (x2, ()), ())
theorem qde_eq (n : Nat) (x0 x1 x2) : qde n x0 x1 x2 = if x2 = 0 then none else (if x1.tmod x2 < 0 then none else (some (((x0, ()), (x1, ()), (x2, ()), ()), (sShl .u32 x0 (x1.tmod x2), ())))) := by kernel_rfl
def qde_sp : GSpec TT := ⟨[.ptr 0 91 [.val (.int .u32)], .ptr 0 91 [.val (.int .u32)], .ptr 0 91 [.val (.int .u32)]], [.blk 91 [.val (.int .u32)], .blk 91 [.val (.int .u32)], .blk 91 [.val (.int .u32)]], [.val (.int .u32)], fun x => qde BIG x.1.1 x.2.1.1 x.2.2.1.1⟩
theorem qde_ok : GOk TT prog 105 qde_sp := gOk_of (C := qde_C) (cuts := qde_cuts) (by kernel_rfl) qde_env func105 (show f105.body = some (bodyOf f105) by kernel_rfl) (by kernel_rfl) (by kernel_rfl) (by kernel_rfl) fun x y h => ⟨BIG, h⟩
def qdf_C : Ctx TT := ⟨tyOf, [], 3, [], layOf⟩
theorem qdf_env : EnvOk TT prog qdf_C.E := envNil
def qdf_cuts : List (Pos × Cut) := []
def qdf (n : Nat) (x0 x1 x2 : Int) : Option (((Int × Unit) × (Int × Unit) × (Int × Unit) × Unit) × (Int × Unit)) := topG TT prog qdf_C qdf_cuts f106 (bodyOf f106) ⟨[], [], [], [], []⟩ [.ptr 0 91 [.val (.int .u32)], .ptr 0 91 [.val (.int .u32)], .ptr 0 91 [.val (.int .u32)]] [.blk 91 [.val (.int .u32)], .blk 91 [.val (.int .u32)], .blk 91 [.val (.int .u32)]] [.val (.int .u32)] n ((x0, ()), (x1, ()), (x2, ()), ())
theorem qdf_eq (n : Nat) (x0 x1 x2) : qdf n x0 x1 x2 = if x2 = 0 then none else (if x1.tmod x2 < 0 then none else (some (((x0, ()), (x1, ()), (x2, ()), ()), (sShr .u32 x0 (x1.tmod x2), ())))) := by kernel_rfl
def qdf_sp : GSpec TT := ⟨[.ptr 0 91 [.val (.int .u32)], .ptr 0 91 [.val (.int .u32)], .ptr 0 91 [.val (.int .u32)]], [.blk 91 [.val (.int .u32)], .blk 91 [.val (.int .u32)], .blk 91 [.val (.int .u32)]], [.val (.int .u32)], fun x => qdf BIG x.1.1 x.2.1.1 x.2.2.1.1⟩
theorem qdf_ok : GOk TT prog 106 qdf_sp := gOk_of (C := qdf_C) (cuts := qdf_cuts) (by kernel_rfl) qdf_env func106 (show f106.body = some (bodyOf f106) by kernel_rfl) (by kernel_rfl) (by kernel_rfl) (by kernel_rfl) fun x y h => ⟨BIG, h⟩
def qdg_C : Ctx TT := ⟨tyOf, [], 3, [], layOf⟩
theorem qdg_env : EnvOk TT prog qdg_C.E := envNil
def qdg_cuts : List (Pos × Cut) := []
def qdg (n : Nat) (x0 x1 x2 : Int) : Option (((Int × Unit) × (Int × Unit) × (Int × Unit) × Unit) × (Int × Unit)) := topG TT prog qdg_C qdg_cuts f107 (bodyOf f107) ⟨[], [], [], [], []⟩ [.ptr 0 91 [.val (.int .u32)], .ptr 0 91 [.val (.int .u32)], .ptr 0 91 [.val (.int .u32)]] [.blk 91 [.val (.int .u32)], .blk 91 [.val (.int .u32)], .blk 91 [.val (.int .u32)]] [.val (.int .u32)] n ((x0, ()), (x1, ()), (x2, ()), ())
theorem qdg_eq (n : Nat) (x0 x1 x2) : qdg n x0 x1 x2 = if x2 = 0 then none else (if x1.tmod x2 < 0 then none else (some (((x0, ()), (x1, ()), (x2, ()), ()), (IntKind.u32.wrap (sShr .i32 (IntKind.i32.wrap x0) (x1.tmod x2)), ())))) := by kernel_rfl
def qdg_sp : GSpec TT := ⟨[.ptr 0 91 [.val (.int .u32)], .ptr 0 91 [.val (.int .u32)], .ptr 0 91 [.val (.int .u32)]], [.blk 91 [.val (.int .u32)], .blk 91 [.val (.int .u32)], .blk 91 [.val (.int .u32)]], [.val (.int .u32)], fun x => qdg BIG x.1.1 x.2.1.1 x.2.2.1.1⟩
theorem qdg_ok : GOk TT prog 107 qdg_sp := gOk_of (C := qdg_C) (cuts := qdg_cuts) (by kernel_rfl) qdg_env func107 (show f107.body = some (bodyOf f107) by kernel_rfl) (by kernel_rfl) (by kernel_rfl) (by kernel_rfl) fun x y h => ⟨BIG, h⟩
def qdh_C : Ctx TT := ⟨tyOf, [], 1, [], layOf⟩
theorem qdh_env : EnvOk TT prog qdh_C.E := envNil
def qdh_cuts : List (Pos × Cut) := []
def qdh (n : Nat) (x0 : Int) : Option (((Int × Unit) × Unit) × (Int × Unit)) := topG TT prog qdh_C qdh_cuts f108 (bodyOf f108) ⟨[], [], [], [], []⟩ [.ptr 0 91 [.val (.int .u32)]] [.blk 91 [.val (.int .u32)]] [.val (.int .u32)] n ((x0, ()), ())
theorem qdh_eq (n : Nat) (x0) : qdh n x0 = some (((x0, ()), ()), (x0, ())) := by kernel_rfl
def qdh_sp : GSpec TT := ⟨[.ptr 0 91 [.val (.int .u32)]], [.blk 91 [.val (.int .u32)]], [.val (.int .u32)], fun x => qdh BIG x.1.1⟩
theorem qdh_ok : GOk TT prog 108 qdh_sp := gOk_of (C := qdh_C) (cuts := qdh_cuts) (by kernel_rfl) qdh_env func108 (show f108.body = some (bodyOf f108) by kernel_rfl) (by kernel_rfl) (by kernel_rfl) (by kernel_rfl) fun x y h => ⟨BIG, h⟩
def qdi_C : Ctx TT := ⟨tyOf, [], 1, [], layOf⟩
theorem qdi_env : EnvOk TT prog qdi_C.E := envNil
def qdi_cuts : List (Pos × Cut) := []
def qdi (n : Nat) (x0 : Int) : Option (((Int × Unit) × Unit) × (Int × Unit)) := topG TT prog qdi_C qdi_cuts f109 (bodyOf f109) ⟨[], [], [], [], []⟩ [.ptr 0 91 [.val (.int .u32)]] [.blk 91 [.val (.int .u32)]] [.val (.int .u32)] n ((x0, ()), ())
theorem qdi_eq (n : Nat) (x0) : qdi n x0 = some (((x0, ()), ()), (IntKind.u32.wrap (0 - x0), ())) := by kernel_rfl
def qdi_sp : GSpec TT := ⟨[.ptr 0 91 [.val (.int .u32)]], [.blk 91 [.val (.int .u32)]], [.val (.int .u32)], fun x => qdi BIG x.1.1⟩
theorem qdi_ok : GOk TT prog 109 qdi_sp := gOk_of (C := qdi_C) (cuts := qdi_cuts) (by kernel_rfl) qdi_env func109 (show f109.body = some (bodyOf f109) by kernel_rfl) (by kernel_rfl) (by kernel_rfl) (by kernel_rfl) fun x y h => ⟨BIG, h⟩
def qah_C : Ctx TT := ⟨tyOf, [(97, qcw_sp.toCall (noCall TT)), (98, qcx_sp.toCall (noCall TT)), (99, qcy_sp.toCall (noCall TT)), (100, qcz_sp.toCall (noCall TT)), (101, qda_sp.toCall (noCall TT)), (102, qdb_sp.toCall (noCall TT)), (103, qdc_sp.toCall (noCall TT)), (104, qdd_sp.toCall (noCall TT)), (105, qde_sp.toCall (noCall TT)), (106, qdf_sp.toCall (noCall TT)), (107, qdg_sp.toCall (noCall TT)), (108, qdh_sp.toCall (noCall TT)), (109, qdi_sp.toCall (noCall TT))], 0, [], layOf⟩
theorem qah_env : EnvOk TT prog qah_C.E := envG (gCall_ok qcw_ok (noCall_ok 97)) (envG (gCall_ok qcx_ok (noCall_ok 98)) (envG (gCall_ok qcy_ok (noCall_ok 99)) (envG (gCall_ok qcz_ok (noCall_ok 100)) (envG (gCall_ok qda_ok (noCall_ok 101)) (envG (gCall_ok qdb_ok (noCall_ok 102)) (envG (gCall_ok qdc_ok (noCall_ok 103)) (envG (gCall_ok qdd_ok (noCall_ok 104)) (envG (gCall_ok qde_ok (noCall_ok 105)) (envG (gCall_ok qdf_ok (noCall_ok 106)) (envG (gCall_ok qdg_ok (noCall_ok 107)) (envG (gCall_ok qdh_ok (noCall_ok 108)) (envG (gCall_ok qdi_ok (noCall_ok 109)) (envNil)))))))))))))
def qah_cuts : List (Pos × Cut) := [([false, true], ⟨[0, 5, 6, 7, 21], [], false, []⟩)]
def qah (n : Nat) (x0 x1 x2 x3 : Int) : Option (Int × Int) := topF TT prog qah_C qah_cuts f76 (bodyOf f76) ⟨[], []⟩ [.val (.int .u8), .val (.int .u32), .val (.int .u32), .val (.int .u32)] [.val (.int .u32), .val (.int .i64)] n (x0, x1, x2, x3)
noncomputable abbrev qah_z := cutF TT prog qah_C qah_cuts f76 (bodyOf f76) ⟨[], []⟩ [.val (.int .u8), .val (.int .u32), .val (.int .u32), .val (.int .u32)] [.val (.int .u32), .val (.int .i64)]
def qah_J0 (n : Nat) (s0 : Int) (s21 : Bool) (b0_0 b1_0 b2_0 : Int) : Option (Int × Int) := qah_z n [false, true] ⟨[(0, cu8 s0), (5, .ptr 0 0), (6, .ptr 1 0), (7, .ptr 2 0), (21, cb s21)], [.blk 91 [cu32 b0_0], .blk 91 [cu32 b1_0], .blk 91 [cu32 b2_0]]⟩
theorem qah_eq (n : Nat) (x0 x1 x2 x3) : qah n x0 x1 x2 x3 = forkB (x0 == (4 : Int)) (qah_J0 n x0 (x3 == (0 : Int)) x1 x2 x3) (forkB (x0 == (5 : Int)) (qah_J0 n x0 (x3 == (0 : Int)) x1 x2 x3) (qah_J0 n x0 false x1 x2 x3)) := by kernel_rfl
theorem qah_J0_eq (n : Nat) (s0 s21 b0_0 b1_0 b2_0) : qah_J0 (n + 1) s0 s21 b0_0 b1_0 b2_0 = forkB s21 (some ((0 : Int), (113 : Int))) (if s0 = (1 : Int) then (obind (qcw BIG b1_0 b2_0) fun y1 => some (y1.2.1, (0 : Int))) else (if s0 = (2 : Int) then (obind (qcx BIG b1_0 b2_0) fun y2 => some (y2.2.1, (0 : Int))) else (if s0 = (3 : Int) then (obind (qcy BIG b1_0 b2_0) fun y3 => some (y3.2.1, (0 : Int))) else (if s0 = (4 : Int) then (obind (qcz BIG b1_0 b2_0) fun y4 => some (y4.2.1, (0 : Int))) else (if s0 = (5 : Int) then (obind (qda BIG b1_0 b2_0) fun y5 => some (y5.2.1, (0 : Int))) else (if s0 = (6 : Int) then (obind (qdb BIG b1_0 b2_0) fun y6 => some (y6.2.1, (0 : Int))) else (if s0 = (7 : Int) then (obind (qdc BIG b1_0 b2_0) fun y7 => some (y7.2.1, (0 : Int))) else (if s0 = (8 : Int) then (obind (qdd BIG b1_0 b2_0) fun y8 => some (y8.2.1, (0 : Int))) else (if s0 = (9 : Int) then (obind (qde BIG b1_0 b2_0 b0_0) fun y9 => some (y9.2.1, (0 : Int))) else (if s0 = (10 : Int) then (obind (qdf BIG b1_0 b2_0 b0_0) fun y10 => some (y10.2.1, (0 : Int))) else (if s0 = (11 : Int) then (obind (qdg BIG b1_0 b2_0 b0_0) fun y11 => some (y11.2.1, (0 : Int))) else (if s0 = (12 : Int) then (obind (qdh BIG b2_0) fun y12 => some (y12.2.1, (0 : Int))) else (if s0 = (13 : Int) then (obind (qdi BIG b1_0) fun y13 => some (y13.2.1, (0 : Int))) else (some ((0 : Int), (2 : Int)))))))))))))))) := by kernel_rfl
def qah_sp : FnSpec TT := ⟨[.val (.int .u8), .val (.int .u32), .val (.int .u32), .val (.int .u32)], [.val (.int .u32), .val (.int .i64)], fun x => qah BIG x.1 x.2.1 x.2.2.1 x.2.2.2⟩
theorem qah_ok : FnOk TT prog 76 qah_sp := fnOk_of (C := qah_C) (by kernel_rfl) qah_env func76 (show f76.body = some (bodyOf f76) by kernel_rfl) (by kernel_rfl) (by kernel_rfl) (cuts := qah_cuts) fun x y h => ⟨BIG, h⟩
def qdj_C : Ctx TT := ⟨tyOf, [], 2, [], layOf⟩
theorem qdj_env : EnvOk TT prog qdj_C.E := envNil
def qdj_cuts : List (Pos × Cut) := []
def qdj (n : Nat) (x0 x1 : Int) : Option (((Int × Unit) × (Int × Unit) × Unit) × (Int × Unit)) := topG TT prog qdj_C qdj_cuts f110 (bodyOf f110) ⟨[], [], [], [], []⟩ [.ptr 0 28 [.val (.int .u64)], .ptr 0 28 [.val (.int .u64)]] [.blk 28 [.val (.int .u64)], .blk 28 [.val (.int .u64)]] [.val (.int .u64)] n ((x0, ()), (x1, ()), ())
theorem qdj_eq (n : Nat) (x0 x1) : qdj n x0 x1 = some (((x0, ()), (x1, ()), ()), (IntKind.u64.wrap (x0 + x1), ())) := by kernel_rfl
def qdj_sp : GSpec TT := ⟨[.ptr 0 28 [.val (.int .u64)], .ptr 0 28 [.val (.int .u64)]], [.blk 28 [.val (.int .u64)], .blk 28 [.val (.int .u64)]], [.val (.int .u64)], fun x => qdj BIG x.1.1 x.2.1.1⟩
theorem qdj_ok : GOk TT prog 110 qdj_sp := gOk_of (C := qdj_C) (cuts := qdj_cuts) (by kernel_rfl) qdj_env func110 (show f110.body = some (bodyOf f110) by kernel_rfl) (by kernel_rfl) (by kernel_rfl) (by kernel_rfl) fun x y h => ⟨BIG, h⟩
def qdk_C : Ctx TT := ⟨tyOf, [], 2, [], layOf⟩
theorem qdk_env : EnvOk TT prog qdk_C.E := envNil
def qdk_cuts : List (Pos × Cut) := []
def qdk (n : Nat) (x0 x1 : Int) : Option (((Int × Unit) × (Int × Unit) × Unit) × (Int × Unit)) := topG TT prog qdk_C qdk_cuts f111 (bodyOf f111) ⟨[], [], [], [], []⟩ [.ptr 0 28 [.val (.int .u64)], .ptr 0 28 [.val (.int .u64)]] [.blk 28 [.val (.int .u64)], .blk 28 [.val (.int .u64)]] [.val (.int .u64)] n ((x0, ()), (x1, ()), ())
theorem qdk_eq (n : Nat) (x0 x1) : qdk n x0 x1 = some (((x0, ()), (x1, ()), ()), (IntKind.u64.wrap (x0 - x1), ())) := by kernel_rfl
def qdk_sp : GSpec TT := ⟨[.ptr 0 28 [.val (.int .u64)], .ptr 0 28 [.val (.int .u64)]], [.blk 28 [.val (.int .u64)], .blk 28 [.val (.int .u64)]], [.val (.int .u64)], fun x => qdk BIG x.1.1 x.2.1.1⟩
theorem qdk_ok : GOk TT prog 111 qdk_sp := gOk_of (C := qdk_C) (cuts := qdk_cuts) (by kernel_rfl) qdk_env func111 (show f111.body = some (bodyOf f111) by kernel_rfl) (by kernel_rfl) (by kernel_rfl) (by kernel_rfl) fun x y h => ⟨BIG, h⟩
def qdl_C : Ctx TT := ⟨tyOf, [], 2, [], layOf⟩
theorem qdl_env : EnvOk TT prog qdl_C.E := envNil
def qdl_cuts : List (Pos × Cut) := []
def qdl (n : Nat) (x0 x1 : Int) : Option (((Int × Unit) × (Int × Unit) × Unit) × (Int × Unit)) := topG TT prog qdl_C qdl_cuts f112 (bodyOf f112) ⟨[], [], [], [], []⟩ [.ptr 0 28 [.val (.int .u64)], .ptr 0 28 [.val (.int .u64)]] [.blk 28 [.val (.int .u64)], .blk 28 [.val (.int .u64)]] [.val (.int .u64)] n ((x0, ()), (x1, ()), ())
theorem qdl_eq (n : Nat) (x0 x1) : qdl n x0 x1 = some (((x0, ()), (x1, ()), ()), (IntKind.u64.wrap (x0 * x1), ())) := by kernel_rfl
def qdl_sp : GSpec TT := ⟨[.ptr 0 28 [.val (.int .u64)], .ptr 0 28 [.val (.int .u64)]], [.blk 28 [.val (.int .u64)], .blk 28 [.val (.int .u64)]], [.val (.int .u64)], fun x => qdl BIG x.1.1 x.2.1.1⟩
theorem qdl_ok : GOk TT prog 112 qdl_sp := gOk_of (C := qdl_C) (cuts := qdl_cuts) (by kernel_rfl) qdl_env func112 (show f112.body = some (bodyOf f112) by kernel_rfl) (by kernel_rfl) (by kernel_rfl) (by kernel_rfl) fun x y h => ⟨BIG, h⟩
def qdm_C : Ctx TT := ⟨tyOf, [], 2, [], layOf⟩
theorem qdm_env : EnvOk TT prog qdm_C.E := envNil
def qdm_cuts : List (Pos × Cut) := []
def qdm (n : Nat) (x0 x1 : Int) : Option (((Int × Unit) × (Int × Unit) × Unit) × (Int × Unit)) := topG TT prog qdm_C qdm_cuts f113 (bodyOf f113) ⟨[], [], [], [], []⟩ [.ptr 0 28 [.val (.int .u64)], .ptr 0 28 [.val (.int .u64)]] [.blk 28 [.val (.int .u64)], .blk 28 [.val (.int .u64)]] [.val (.int .u64)] n ((x0, ()), (x1, ()), ())
theorem qdm_eq (n : Nat) (x0 x1) : qdm n x0 x1 = if x1 = 0 then none else (some (((x0, ()), (x1, ()), ()), (IntKind.u64.wrap (x0.tdiv x1), ()))) := by kernel_rfl
def qdm_sp : GSpec TT := ⟨[.ptr 0 28 [.val (.int .u64)], .ptr 0 28 [.val (.int .u64)]], [.blk 28 [.val (.int .u64)], .blk 28 [.val (.int .u64)]], [.val (.int .u64)], fun x => qdm BIG x.1.1 x.2.1.1⟩
theorem qdm_ok : GOk TT prog 113 qdm_sp := gOk_of (C := qdm_C) (cuts := qdm_cuts) (by kernel_rfl) qdm_env func113 (show f113.body = some (bodyOf f113) by kernel_rfl) (by kernel_rfl) (by kernel_rfl) (by kernel_rfl) fun x y h => ⟨BIG, h⟩
def qdn_C : Ctx TT := ⟨tyOf, [], 2, [], layOf⟩
theorem qdn_env : EnvOk TT prog qdn_C.E := envNil
def qdn_cuts : List (Pos × Cut) := []
def qdn (n : Nat) (x0 x1 : Int) : Option (((Int × Unit) × (Int × Unit) × Unit) × (Int × Unit)) := topG TT prog qdn_C qdn_cuts f114 (bodyOf f114) ⟨[], [], [], [], []⟩ [.ptr 0 28 [.val (.int .u64)], .ptr 0 28 [.val (.int .u64)]] [.blk 28 [.val (.int .u64)], .blk 28 [.val (.int .u64)]] [.val (.int .u64)] n ((x0, ()), (x1, ()), ())
theorem qdn_eq (n : Nat) (x0 x1) : qdn n x0 x1 = if x1 = 0 then none else (some (((x0, ()), (x1, ()), ()), (x0.tmod x1, ()))) := by kernel_rfl
def qdn_sp : GSpec TT := ⟨[.ptr 0 28 [.val (.int .u64)], .ptr 0 28 [.val (.int .u64)]], [.blk 28 [.val (.int .u64)], .blk 28 [.val (.int .u64)]], [.val (.int .u64)], fun x => qdn BIG x.1.1 x.2.1.1⟩
theorem qdn_ok : GOk TT prog 114 qdn_sp := gOk_of (C := qdn_C) (cuts := qdn_cuts) (by kernel_rfl) qdn_env func114 (show f114.body = some (bodyOf f114) by kernel_rfl) (by kernel_rfl) (by kernel_rfl) (by kernel_rfl) fun x y h => ⟨BIG, h⟩
def qdo_C : Ctx TT := ⟨tyOf, [], 2, [], layOf⟩
theorem qdo_env : EnvOk TT prog qdo_C.E := envNil
def qdo_cuts : List (Pos × Cut) := []
def qdo (n : Nat) (x0 x1 : Int) : Option (((Int × Unit) × (Int × Unit) × Unit) × (Int × Unit)) := topG TT prog qdo_C qdo_cuts f115 (bodyOf f115) ⟨[], [], [], [], []⟩ [.ptr 0 28 [.val (.int .u64)], .ptr 0 28 [.val (.int .u64)]] [.blk 28 [.val (.int .u64)], .blk 28 [.val (.int .u64)]] [.val (.int .u64)] n ((x0, ()), (x1, ()), ())
theorem qdo_eq (n : Nat) (x0 x1) : qdo n x0 x1 = some (((x0, ()), (x1, ()), ()), (bAnd .u64 x0 x1, ())) := by kernel_rfl
def qdo_sp : GSpec TT := ⟨[.ptr 0 28 [.val (.int .u64)], .ptr 0 28 [.val (.int .u64)]], [.blk 28 [.val (.int .u64)], .blk 28 [.val (.int .u64)]], [.val (.int .u64)], fun x => qdo BIG x.1.1 x.2.1.1⟩
theorem qdo_ok : GOk TT prog 115 qdo_sp := gOk_of (C := qdo_C) (cuts := qdo_cuts) (by kernel_rfl) qdo_env func115 (show f115.body = some (bodyOf f115) by kernel_rfl) (by kernel_rfl) (by kernel_rfl) (by kernel_rfl) fun x y h => ⟨BIG, h⟩
def qdp_C : Ctx TT := ⟨tyOf, [], 2, [], layOf⟩
theorem qdp_env : EnvOk TT prog qdp_C.E := envNil
def qdp_cuts : List (Pos × Cut) := []
def qdp (n : Nat) (x0 x1 : Int) : Option (((Int × Unit) × (Int × Unit) × Unit) × (Int × Unit)) := topG TT prog qdp_C qdp_cuts f116 (bodyOf f116) ⟨[], [], [], [], []⟩ [.ptr 0 28 [.val (.int .u64)], .ptr 0 28 [.val (.int .u64)]] [.blk 28 [.val (.int .u64)], .blk 28 [.val (.int .u64)]] [.val (.int .u64)] n ((x0, ()), (x1, ()), ())
theorem qdp_eq (n : Nat) (x0 x1) : qdp n x0 x1 = some (((x0, ()), (x1, ()), ()), (bOr .u64 x0 x1, ())) := by kernel_rfl
def qdp_sp : GSpec TT := ⟨[.ptr 0 28 [.val (.int .u64)], .ptr 0 28 [.val (.int .u64)]], [.blk 28 [.val (.int .u64)], .blk 28 [.val (.int .u64)]], [.val (.int .u64)], fun x => qdp BIG x.1.1 x.2.1.1⟩
theorem qdp_ok : GOk TT prog 116 qdp_sp := gOk_of (C := qdp_C) (cuts := qdp_cuts) (by kernel_rfl) qdp_env func116 (show f116.body = some (bodyOf f116) by kernel_rfl) (by kernel_rfl) (by kernel_rfl) (by kernel_rfl) fun x y h => ⟨BIG, h⟩
def qdq_C : Ctx TT := ⟨tyOf, [], 2, [], layOf⟩
theorem qdq_env : EnvOk TT prog qdq_C.E := envNil
def qdq_cuts : List (Pos × Cut) := []
def qdq (n : Nat) (x0 x1 : Int) : Option (((Int × Unit) × (Int × Unit) × Unit) × (Int × Unit)) := topG TT prog qdq_C qdq_cuts f117 (bodyOf f117) ⟨[], [], [], [], []⟩ [.ptr 0 28 [.val (.int .u64)], .ptr 0 28 [.val (.int .u64)]] [.blk 28 [.val (.int .u64)], .blk 28 [.val (.int .u64)]] [.val (.int .u64)] n ((x0, ()), (x1, ()), ())
theorem qdq_eq (n : Nat) (x0 x1) : qdq n x0 x1 = some (((x0, ()), (x1, ()), ()), (bXor .u64 x0 x1, ())) := by kernel_rfl
def qdq_sp : GSpec TT := ⟨[.ptr 0 28 [.val (.int .u64)], .ptr 0 28 [.val (.int .u64)]], [.blk 28 [.val (.int .u64)], .blk 28 [.val (.int .u64)]], [.val (.int .u64)], fun x => qdq BIG x.1.1 x.2.1.1⟩
theorem qdq_ok : GOk TT prog 117 qdq_sp := gOk_of (C := qdq_C) (cuts := qdq_cuts) (by kernel_rfl) qdq_env func117 (show f117.body = some (bodyOf f117) by kernel_rfl) (by kernel_rfl) (by kernel_rfl) (by kernel_rfl) fun x y h => ⟨BIG, h⟩
def qdr_C : Ctx TT := ⟨tyOf, [], 3, [], layOf⟩
theorem qdr_env : EnvOk TT prog qdr_C.E := envNil
def qdr_cuts : List (Pos × Cut) := []
def qdr (n : Nat) (x0 x1 x2 : Int) : Option (((Int × Unit) × (Int × Unit) × (Int × Unit) × Unit) × (Int × Unit)) := topG TT prog qdr_C qdr_cuts f118 (bodyOf f118) ⟨[], [], [], [], []⟩ [.ptr 0 28 [.val (.int .u64)], .ptr 0 28 [.val (.int .u64)], .ptr 0 28 [.val (.int .u64)]] [.blk 28 [.val (.int .u64)], .blk 28 [.val (.int .u64)], .blk 28 [.val (.int .u64)]] [.val (.int .u64)] n ((x0, ()), (x1, ()), (x2, ()), ())
theorem qdr_eq (n : Nat) (x0 x1 x2) : qdr n x0 x1 x2 = if x2 = 0 then none else (if x1.tmod x2 < 0 then none else (some (((x0, ()), (x1, ()), (x2, ()), ()), (sShl .u64 x0 (x1.tmod x2), ())))) := by kernel_rfl
def qdr_sp : GSpec TT := ⟨[.ptr 0 28 [.val (.int .u64)], .ptr 0 28 [.val (.int .u64)], .ptr 0 28 [.val (.int .u64)]], [.blk 28 [.val (.int .u64)], .blk 28 [.val (.int .u64)], .blk 28 [.val (.int .u64)]], [.val (.int .u64)], fun x => qdr BIG x.1.1 x.2.1.1 x.2.2.1.1⟩
theorem qdr_ok : GOk TT prog 118 qdr_sp := gOk_of (C := qdr_C) (cuts := qdr_cuts) (by kernel_rfl) qdr_env func118 (show f118.body = some (bodyOf f118) by kernel_rfl) (by kernel_rfl) (by kernel_rfl) (by kernel_rfl) fun x y h => ⟨BIG, h⟩
def qds_C : Ctx TT := ⟨tyOf, [], 3, [], layOf⟩
theorem qds_env : EnvOk TT prog qds_C.E := envNil
def qds_cuts : List (Pos × Cut) := []
def qds (n : Nat) (x0 x1 x2 : Int) : Option (((Int × Unit) × (Int × Unit) × (Int × Unit) × Unit) × (Int × Unit)) := topG TT prog qds_C qds_cuts f119 (bodyOf f119) ⟨[], [], [], [], []⟩ [.ptr 0 28 [.val (.int .u64)], .ptr 0 28 [.val (.int .u64)], .ptr 0 28 [.val (.int .u64)]] [.blk 28 [.val (.int .u64)], .blk 28 [.val (.int .u64)], .blk 28 [.val (.int .u64)]] [.val (.int .u64)] n ((x0, ()), (x1, ()), (x2, ()), ())
theorem qds_eq (n : Nat) (x0 x1 x2) : qds n x0 x1 x2 = if x2 = 0 then none else (if x1.tmod x2 < 0 then none else (some (((x0, ()), (x1, ()), (x2, ()), ()), (sShr .u64 x0 (x1.tmod x2), ())))) := by kernel_rfl
def qds_sp : GSpec TT := ⟨[.ptr 0 28 [.val (.int .u64)], .ptr 0 28 [.val (.int .u64)], .ptr 0 28 [.val (.int .u64)]], [.blk 28 [.val (.int .u64)], .blk 28 [.val (.int .u64)], .blk 28 [.val (.int .u64)]], [.val (.int .u64)], fun x => qds BIG x.1.1 x.2.1.1 x.2.2.1.1⟩
theorem qds_ok : GOk TT prog 119 qds_sp := gOk_of (C := qds_C) (cuts := qds_cuts) (by kernel_rfl) qds_env func119 (show f119.body = some (bodyOf f119) by kernel_rfl) (by kernel_rfl) (by kernel_rfl) (by kernel_rfl) fun x y h => ⟨BIG, h⟩
def qdt_C : Ctx TT := ⟨tyOf, [], 3, [], layOf⟩
theorem qdt_env : EnvOk TT prog qdt_C.E := envNil
def qdt_cuts : List (Pos × Cut) := []
def qdt (n : Nat) (x0 x1 x2 : Int) : Option (((Int × Unit) × (Int × Unit) × (Int × Unit) × Unit) × (Int × Unit)) := topG TT prog qdt_C qdt_cuts f120 (bodyOf f120) ⟨[], [], [], [], []⟩ [.ptr 0 28 [.val (.int .u64)], .ptr 0 28 [.val (.int .u64)], .ptr 0 28 [.val (.int .u64)]] [.blk 28 [.val (.int .u64)], .blk 28 [.val (.int .u64)], .blk 28 [.val (.int .u64)]] [.val (.int .u64)] n ((x0, ()), (x1, ()), (x2, ()), ())
theorem qdt_eq (n : Nat) (x0 x1 x2) : qdt n x0 x1 x2 = if x2 = 0 then none else (if x1.tmod x2 < 0 then none else (some (((x0, ()), (x1, ()), (x2, ()), ()), (IntKind.u64.wrap (sShr .i64 (IntKind.i64.wrap x0) (x1.tmod x2)), ())))) := by kernel_rfl
def qdt_sp : GSpec TT := ⟨[.ptr 0 28 [.val (.int .u64)], .ptr 0 28 [.val (.int .u64)], .ptr 0 28 [.val (.int .u64)]], [.blk 28 [.val (.int .u64)], .blk 28 [.val (.int .u64)], .blk 28 [.val (.int .u64)]], [.val (.int .u64)], fun x => qdt BIG x.1.1 x.2.1.1 x.2.2.1.1⟩
theorem qdt_ok : GOk TT prog 120 qdt_sp := gOk_of (C := qdt_C) (cuts := qdt_cuts) (by kernel_rfl) qdt_env func120 (show f120.body = some (bodyOf f120) by kernel_rfl) (by kernel_rfl) (by kernel_rfl) (by kernel_rfl) fun x y h => ⟨BIG, h⟩
def qdu_C : Ctx TT := ⟨tyOf, [], 1, [], layOf⟩
theorem qdu_env : EnvOk TT prog qdu_C.E := envNil
def qdu_cuts : List (Pos × Cut) := []
def qdu (n : Nat) (x0 : Int) : Option (((Int × Unit) × Unit) × (Int × Unit)) := topG TT prog qdu_C qdu_cuts f121 (bodyOf f121) ⟨[], [], [], [], []⟩ [.ptr 0 28 [.val (.int .u64)]] [.blk 28 [.val (.int .u64)]] [.val (.int .u64)] n ((x0, ()), ())
theorem qdu_eq (n : Nat) (x0) : qdu n x0 = some (((x0, ()), ()), (x0, ())) := by kernel_rfl
def qdu_sp : GSpec TT := ⟨[.ptr 0 28 [.val (.int .u64)]], [.blk 28 [.val (.int .u64)]], [.val (.int .u64)], fun x => qdu BIG x.1.1⟩
theorem qdu_ok : GOk TT prog 121 qdu_sp := gOk_of (C := qdu_C) (cuts := qdu_cuts) (by kernel_rfl) qdu_env func121 (show f121.body = some (bodyOf f121) by kernel_rfl) (by kernel_rfl) (by kernel_rfl) (by kernel_rfl) fun x y h => ⟨BIG, h⟩
def qdv_C : Ctx TT := ⟨tyOf, [], 1, [], layOf⟩
theorem qdv_env : EnvOk TT prog qdv_C.E := envNil
def qdv_cuts : List (Pos × Cut) := []
def qdv (n : Nat) (x0 : Int) : Option (((Int × Unit) × Unit) × (Int × Unit)) := topG TT prog qdv_C qdv_cuts f122 (bodyOf f122) ⟨[], [], [], [], []⟩ [.ptr 0 28 [.val (.int .u64)]] [.blk 28 [.val (.int .u64)]] [.val (.int .u64)] n ((x0, ()), ())
theorem qdv_eq (n : Nat) (x0) : qdv n x0 = some (((x0, ()), ()), (IntKind.u64.wrap (0 - x0), ())) := by kernel_rfl
def qdv_sp : GSpec TT := ⟨[.ptr 0 28 [.val (.int .u64)]], [.blk 28 [.val (.int .u64)]], [.val (.int .u64)], fun x => qdv BIG x.1.1⟩
theorem qdv_ok : GOk TT prog 122 qdv_sp := gOk_of (C := qdv_C) (cuts := qdv_cuts) (by kernel_rfl) qdv_env func122 (show f122.body = some (bodyOf f122) by kernel_rfl) (by kernel_rfl) (by kernel_rfl) (by kernel_rfl) fun x y h => ⟨BIG, h⟩
def qai_C : Ctx TT := ⟨tyOf, [(110, qdj_sp.toCall (noCall TT)), (111, qdk_sp.toCall (noCall TT)), (112, qdl_sp.toCall (noCall TT)), (113, qdm_sp.toCall (noCall TT)), (114, qdn_sp.toCall (noCall TT)), (115, qdo_sp.toCall (noCall TT)), (116, qdp_sp.toCall (noCall TT)), (117, qdq_sp.toCall (noCall TT)), (118, qdr_sp.toCall (noCall TT)), (119, qds_sp.toCall (noCall TT)), (120, qdt_sp.toCall (noCall TT)), (121, qdu_sp.toCall (noCall TT)), (122, qdv_sp.toCall (noCall TT))], 0, [], layOf⟩
theorem qai_env : EnvOk TT prog qai_C.E := envG (gCall_ok qdj_ok (noCall_ok 110)) (envG (gCall_ok qdk_ok (noCall_ok 111)) (envG (gCall_ok qdl_ok (noCall_ok 112)) (envG (gCall_ok qdm_ok (noCall_ok 113)) (envG (gCall_ok qdn_ok (noCall_ok 114)) (envG (gCall_ok qdo_ok (noCall_ok 115)) (envG (gCall_ok qdp_ok (noCall_ok 116)) (envG (gCall_ok qdq_ok (noCall_ok 117)) (envG (gCall_ok qdr_ok (noCall_ok 118)) (envG (gCall_ok qds_ok (noCall_ok 119)) (envG (gCall_ok qdt_ok (noCall_ok 120)) (envG (gCall_ok qdu_ok (noCall_ok 121)) (envG (gCall_ok qdv_ok (noCall_ok 122)) (envNil)))))))))))))
def qai_cuts : List (Pos × Cut) := [([false, true], ⟨[0, 5, 6, 7, 21], [], false, []⟩)]
def qai (n : Nat) (x0 x1 x2 x3 : Int) : Option (Int × Int) := topF TT prog qai_C qai_cuts f77 (bodyOf f77) ⟨[], []⟩ [.val (.int .u8), .val (.int .u64), .val (.int .u64), .val (.int .u64)] [.val (.int .u64), .val (.int .i64)] n (x0, x1, x2, x3)
noncomputable abbrev qai_z := cutF TT prog qai_C qai_cuts f77 (bodyOf f77) ⟨[], []⟩ [.val (.int .u8), .val (.int .u64), .val (.int .u64), .val (.int .u64)] [.val (.int .u64), .val (.int .i64)]
def qai_J0 (n : Nat) (s0 : Int) (s21 : Bool) (b0_0 b1_0 b2_0 : Int) : Option (Int × Int) := qai_z n [false, true] ⟨[(0, cu8 s0), (5, .ptr 0 0), (6, .ptr 1 0), (7, .ptr 2 0), (21, cb s21)], [.blk 28 [cu64 b0_0], .blk 28 [cu64 b1_0], .blk 28 [cu64 b2_0]]⟩
theorem qai_eq (n : Nat) (x0 x1 x2 x3) : qai n x0 x1 x2 x3 = forkB (x0 == (4 : Int)) (qai_J0 n x0 (x3 == (0 : Int)) x1 x2 x3) (forkB (x0 == (5 : Int)) (qai_J0 n x0 (x3 == (0 : Int)) x1 x2 x3) (qai_J0 n x0 false x1 x2 x3)) := by kernel_rfl
theorem qai_J0_eq (n : Nat) (s0 s21 b0_0 b1_0 b2_0) : qai_J0 (n + 1) s0 s21 b0_0 b1_0 b2_0 = forkB s21 (some ((0 : Int), (113 : Int))) (if s0 = (1 : Int) then (obind (qdj BIG b1_0 b2_0) fun y1 => some (y1.2.1, (0 : Int))) else (if s0 = (2 : Int) then (obind (qdk BIG b1_0 b2_0) fun y2 => some (y2.2.1, (0 : Int))) else (if s0 = (3 : Int) then (obind (qdl BIG b1_0 b2_0) fun y3 => some (y3.2.1, (0 : Int))) else (if s0 = (4 : Int) then (obind (qdm BIG b1_0 b2_0) fun y4 => some (y4.2.1, (0 : Int))) else (if s0 = (5 : Int) then (obind (qdn BIG b1_0 b2_0) fun y5 => some (y5.2.1, (0 : Int))) else (if s0 = (6 : Int) then (obind (qdo BIG b1_0 b2_0) fun y6 => some (y6.2.1, (0 : Int))) else (if s0 = (7 : Int) then (obind (qdp BIG b1_0 b2_0) fun y7 => some (y7.2.1, (0 : Int))) else (if s0 = (8 : Int) then (obind (qdq BIG b1_0 b2_0) fun y8 => some (y8.2.1, (0 : Int))) else (if s0 = (9 : Int) then (obind (qdr BIG b1_0 b2_0 b0_0) fun y9 => some (y9.2.1, (0 : Int))) else (if s0 = (10 : Int) then (obind (qds BIG b1_0 b2_0 b0_0) fun y10 => some (y10.2.1, (0 : Int))) else (if s0 = (11 : Int) then (obind (qdt BIG b1_0 b2_0 b0_0) fun y11 => some (y11.2.1, (0 : Int))) else (if s0 = (12 : Int) then (obind (qdu BIG b2_0) fun y12 => some (y12.2.1, (0 : Int))) else (if s0 = (13 : Int) then (obind (qdv BIG b1_0) fun y13 => some (y13.2.1, (0 : Int))) else (some ((0 : Int), (2 : Int)))))))))))))))) := by kernel_rfl
def qai_sp : FnSpec TT := ⟨[.val (.int .u8), .val (.int .u64), .val (.int .u64), .val (.int .u64)], [.val (.int .u64), .val (.int .i64)], fun x => qai BIG x.1 x.2.1 x.2.2.1 x.2.2.2⟩
theorem qai_ok : FnOk TT prog 77 qai_sp := fnOk_of (C := qai_C) (by kernel_rfl) qai_env func77 (show f77.body = some (bodyOf f77) by kernel_rfl) (by kernel_rfl) (by kernel_rfl) (cuts := qai_cuts) fun x y h => ⟨BIG, h⟩
def qbi_C : Ctx TT := ⟨tyOf, [(76, qah_sp.toCall), (77, qai_sp.toCall)], 0, [], layOf⟩
theorem qbi_env : EnvOk TT prog qbi_C.E := envG (fnCall_ok qah_ok) (envG (fnCall_ok qai_ok) (envNil))
def qbi_cuts : List (Pos × Cut) := []
def qbi (n : Nat) (x0 : Int) (x1 : Bool) (x2 x3 : Int) : Option (Int × Int) := topF TT prog qbi_C qbi_cuts f53 (bodyOf f53) ⟨[], []⟩ [.val (.int .u8), .val (.bool), .val (.int .u64), .val (.int .u64)] [.val (.int .u64), .val (.int .i64)] n (x0, x1, x2, x3)
theorem qbi_eq (n : Nat) (x0 x1 x2 x3) : qbi n x0 x1 x2 x3 = forkB x1 (obind (qah BIG x0 (32 : Int) (IntKind.u32.wrap x2) (IntKind.u32.wrap x3)) fun y1 => some (IntKind.u64.wrap y1.1, y1.2)) (obind (qai BIG x0 (64 : Int) x2 x3) fun y2 => some (y2.1, y2.2)) := by kernel_rfl
def qbi_sp : FnSpec TT := ⟨[.val (.int .u8), .val (.bool), .val (.int .u64), .val (.int .u64)], [.val (.int .u64), .val (.int .i64)], fun x => qbi BIG x.1 x.2.1 x.2.2.1 x.2.2.2⟩
theorem qbi_ok : FnOk TT prog 53 qbi_sp := fnOk_of (C := qbi_C) (by kernel_rfl) qbi_env func53 (show f53.body = some (bodyOf f53) by kernel_rfl) (by kernel_rfl) (by kernel_rfl) (cuts := qbi_cuts) fun x y h => ⟨BIG, h⟩
def qdw_C : Ctx TT := ⟨tyOf, [], 0, [], layOf⟩
theorem qdw_env : EnvOk TT prog qdw_C.E := envNil
def qdw_cuts : List (Pos × Cut) := []
def qdw (n : Nat) (x0 x1 x2 : Int) : Option (Bool × Int) := topF TT prog qdw_C qdw_cuts f83 (bodyOf f83) ⟨[], []⟩ [.val (.int .u8), .val (.int .u32), .val (.int .u32)] [.val (.bool), .val (.int .i64)] n (x0, x1, x2)
theorem qdw_eq (n : Nat) (x0 x1 x2) : qdw n x0 x1 x2 = forkB (x0 == (17 : Int)) (some (x1 == x2, (0 : Int))) (forkB (x0 == (18 : Int)) (some (x1 != x2, (0 : Int))) (forkB (x0 == (19 : Int)) (some (decide (x1 > x2), (0 : Int))) (forkB (x0 == (20 : Int)) (some (decide (x1 >= x2), (0 : Int))) (forkB (x0 == (21 : Int)) (some (decide (x1 < x2), (0 : Int))) (forkB (x0 == (22 : Int)) (some (decide (x1 <= x2), (0 : Int))) (forkB (x0 == (23 : Int)) (some (decide ((IntKind.i32.wrap x1) > (IntKind.i32.wrap x2)), (0 : Int))) (forkB (x0 == (24 : Int)) (some (decide ((IntKind.i32.wrap x1) >= (IntKind.i32.wrap x2)), (0 : Int))) (forkB (x0 == (25 : Int)) (some (decide ((IntKind.i32.wrap x1) < (IntKind.i32.wrap x2)), (0 : Int))) (forkB (x0 == (26 : Int)) (some (decide ((IntKind.i32.wrap x1) <= (IntKind.i32.wrap x2)), (0 : Int))) (forkB (x0 == (27 : Int)) (some ((bAnd .u32 x1 x2) != (0 : Int), (0 : Int))) (some (false, (2 : Int))))))))))))) := by kernel_rfl
def qdw_sp : FnSpec TT := ⟨[.val (.int .u8), .val (.int .u32), .val (.int .u32)], [.val (.bool), .val (.int .i64)], fun x => qdw BIG x.1 x.2.1 x.2.2⟩
theorem qdw_ok : FnOk TT prog 83 qdw_sp := fnOk_of (C := qdw_C) (by kernel_rfl) qdw_env func83 (show f83.body = some (bodyOf f83) by kernel_rfl) (by kernel_rfl) (by kernel_rfl) (cuts := qdw_cuts) fun x y h => ⟨BIG, h⟩
def qdx_C : Ctx TT := ⟨tyOf, [], 0, [], layOf⟩
theorem qdx_env : EnvOk TT prog qdx_C.E := envNil
def qdx_cuts : List (Pos × Cut) := []
def qdx (n : Nat) (x0 x1 x2 : Int) : Option (Bool × Int) := topF TT prog qdx_C qdx_cuts f84 (bodyOf f84) ⟨[], []⟩ [.val (.int .u8), .val (.int .u64), .val (.int .u64)] [.val (.bool), .val (.int .i64)] n (x0, x1, x2)
theorem qdx_eq (n : Nat) (x0 x1 x2) : qdx n x0 x1 x2 = forkB (x0 == (17 : Int)) (some (x1 == x2, (0 : Int))) (forkB (x0 == (18 : Int)) (some (x1 != x2, (0 : Int))) (forkB (x0 == (19 : Int)) (some (decide (x1 > x2), (0 : Int))) (forkB (x0 == (20 : Int)) (some (decide (x1 >= x2), (0 : Int))) (forkB (x0 == (21 : Int)) (some (decide (x1 < x2), (0 : Int))) (forkB (x0 == (22 : Int)) (some (decide (x1 <= x2), (0 : Int))) (forkB (x0 == (23 : Int)) (some (decide ((IntKind.i64.wrap x1) > (IntKind.i64.wrap x2)), (0 : Int))) (forkB (x0 == (24 : Int)) (some (decide ((IntKind.i64.wrap x1) >= (IntKind.i64.wrap x2)), (0 : Int))) (forkB (x0 == (25 : Int)) (some (decide ((IntKind.i64.wrap x1) < (IntKind.i64.wrap x2)), (0 : Int))) (forkB (x0 == (26 : Int)) (some (decide ((IntKind.i64.wrap x1) <= (IntKind.i64.wrap x2)), (0 : Int))) (forkB (x0 == (27 : Int)) (some ((bAnd .u64 x1 x2) != (0 : Int), (0 : Int))) (some (false, (2 : Int))))))))))))) := by kernel_rfl
def qdx_sp : FnSpec TT := ⟨[.val (.int .u8), .val (.int .u64), .val (.int .u64)], [.val (.bool), .val (.int .i64)], fun x => qdx BIG x.1 x.2.1 x.2.2⟩
theorem qdx_ok : FnOk TT prog 84 qdx_sp := fnOk_of (C := qdx_C) (by kernel_rfl) qdx_env func84 (show f84.body = some (bodyOf f84) by kernel_rfl) (by kernel_rfl) (by kernel_rfl) (cuts := qdx_cuts) fun x y h => ⟨BIG, h⟩
def qbz_C : Ctx TT := ⟨tyOf, [(83, qdw_sp.toCall), (84, qdx_sp.toCall)], 0, [], layOf⟩
theorem qbz_env : EnvOk TT prog qbz_C.E := envG (fnCall_ok qdw_ok) (envG (fnCall_ok qdx_ok) (envNil))
def qbz_cuts : List (Pos × Cut) := []
def qbz (n : Nat) (x0 : Int) (x1 : Bool) (x2 x3 : Int) : Option (Bool × Int) := topF TT prog qbz_C qbz_cuts f58 (bodyOf f58) ⟨[], []⟩ [.val (.int .u8), .val (.bool), .val (.int .u64), .val (.int .u64)] [.val (.bool), .val (.int .i64)] n (x0, x1, x2, x3)
theorem qbz_eq (n : Nat) (x0 x1 x2 x3) : qbz n x0 x1 x2 x3 = forkB x1 (obind (qdw BIG x0 (IntKind.u32.wrap x2) (IntKind.u32.wrap x3)) fun y1 => some (y1.1, y1.2)) (obind (qdx BIG x0 x2 x3) fun y2 => some (y2.1, y2.2)) := by kernel_rfl
def qbz_sp : FnSpec TT := ⟨[.val (.int .u8), .val (.bool), .val (.int .u64), .val (.int .u64)], [.val (.bool), .val (.int .i64)], fun x => qbz BIG x.1 x.2.1 x.2.2.1 x.2.2.2⟩
theorem qbz_ok : FnOk TT prog 58 qbz_sp := fnOk_of (C := qbz_C) (by kernel_rfl) qbz_env func58 (show f58.body = some (bodyOf f58) by kernel_rfl) (by kernel_rfl) (by kernel_rfl) (cuts := qbz_cuts) fun x y h => ⟨BIG, h⟩
end
end Go.X
