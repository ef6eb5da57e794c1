import Derived.Test.YtcepemagnfpmdaaGreatSy
namespace Go.X
open Go.RowKit Go.V Go.Proofs Tryz
noncomputable section
def qbu_C : Ctx TT := ⟨tyOf, [], 0, [], layOf, drOf, pmOf⟩
theorem qbu_env : EnvOk TT prog qbu_C.E := envNil
def qbu_cuts : List (Pos × Cut) := [([false, false, true], ⟨[0, 3], [], false, [], 0, false⟩)]
def qbu (n : Nat) (x0 : Int) : Option (Int) := topF TT prog qbu_C qbu_cuts f114 (bodyOf f114) ⟨[], []⟩ [.val (.int .u8)] [.val (.int .i64)] n x0
def qbu_sp : FnSpec TT := ⟨[.val (.int .u8)], [.val (.int .i64)], fun x => qbu BIG x⟩
theorem qbu_ok : FnOk TT prog 114 qbu_sp := fnOk_of (C := qbu_C) (by kernel_rfl) qbu_env func114 (show f114.body = some (bodyOf f114) by kernel_rfl) (by kernel_rfl) (by kernel_rfl) (cuts := qbu_cuts) fun x y h => ⟨BIG, h⟩
def qcv_C : Ctx TT := ⟨tyOf, [], 0, [], layOf, drOf, pmOf⟩
theorem qcv_env : EnvOk TT prog qcv_C.E := envNil
def qcv_cuts : List (Pos × Cut) := [([false, true, false, true], ⟨[0, 1, 7, 8], [], false, [], 0, false⟩)]
def qcv (n : Nat) (x0 : List Int) (x1 : Int) : Option (Int) := topF TT prog qcv_C qcv_cuts f172 (bodyOf f172) ⟨[], []⟩ [.val (.list (.int .i64)), .val (.int .i64)] [.val (.int .i64)] n (x0, x1)
def qcv_sp : FnSpec TT := ⟨[.val (.list (.int .i64)), .val (.int .i64)], [.val (.int .i64)], fun x => qcv BIG x.1 x.2⟩
theorem qcv_ok : FnOk TT prog 172 qcv_sp := fnOk_of (C := qcv_C) (by kernel_rfl) qcv_env func172 (show f172.body = some (bodyOf f172) by kernel_rfl) (by kernel_rfl) (by kernel_rfl) (cuts := qcv_cuts) fun x y h => ⟨BIG, h⟩
def qcu_C : Ctx TT := ⟨tyOf, [(172, qcv_sp.toCall)], 0, [], layOf, drOf, pmOf⟩
theorem qcu_env : EnvOk TT prog qcu_C.E := envG (fnCall_ok qcv_ok) (envNil)
def qcu_cuts : List (Pos × Cut) := []
def qcu (n : Nat) (x0 : List Int) (x1 : Int) : Option (Bool) := topF TT prog qcu_C qcu_cuts f115 (bodyOf f115) ⟨[], []⟩ [.val (.list (.int .i64)), .val (.int .i64)] [.val (.bool)] n (x0, x1)
def qcu_sp : FnSpec TT := ⟨[.val (.list (.int .i64)), .val (.int .i64)], [.val (.bool)], fun x => qcu BIG x.1 x.2⟩
theorem qcu_ok : FnOk TT prog 115 qcu_sp := fnOk_of (C := qcu_C) (by kernel_rfl) qcu_env func115 (show f115.body = some (bodyOf f115) by kernel_rfl) (by kernel_rfl) (by kernel_rfl) (cuts := qcu_cuts) fun x y h => ⟨BIG, h⟩
def qbv_C : Ctx TT := ⟨tyOf, [], 0, [], layOf, drOf, pmOf⟩
theorem qbv_env : EnvOk TT prog qbv_C.E := envNil
def qbv_cuts : List (Pos × Cut) := []
def qbv (n : Nat) (x0 x1 x2 : Int) : Option (Bool) := topF TT prog qbv_C qbv_cuts f116 (bodyOf f116) ⟨[], []⟩ [.val (.int .i64), .val (.int .i64), .val (.int .i64)] [.val (.bool)] n (x0, x1, x2)
def qbv_sp : FnSpec TT := ⟨[.val (.int .i64), .val (.int .i64), .val (.int .i64)], [.val (.bool)], fun x => qbv BIG x.1 x.2.1 x.2.2⟩
theorem qbv_ok : FnOk TT prog 116 qbv_sp := fnOk_of (C := qbv_C) (by kernel_rfl) qbv_env func116 (show f116.body = some (bodyOf f116) by kernel_rfl) (by kernel_rfl) (by kernel_rfl) (cuts := qbv_cuts) fun x y h => ⟨BIG, h⟩
def qay_C : Ctx TT := ⟨tyOf, [(114, qbu_sp.toCall), (115, qcu_sp.toCall), (116, qbv_sp.toCall)], 0, [(8, 1)], layOf, drOf, pmOf⟩
theorem qay_env : EnvOk TT prog qay_C.E := envG (fnCall_ok qbu_ok) (envG (fnCall_ok qcu_ok) (envG (fnCall_ok qbv_ok) (envNil)))
def qay_cuts : List (Pos × Cut) := [([true, true, true], ⟨[1, 3, 4], [], false, [], 0, false⟩), ([true, true, true, true], ⟨[1, 3, 4], [], false, [], 0, false⟩), ([false, true, true, true, true], ⟨[1, 3, 4, 31], [], false, [], 0, false⟩), ([true, true, true, true, true], ⟨[1, 3, 4], [], false, [], 0, false⟩), ([false, true, true, true, true, true], ⟨[1, 3, 4, 41], [], false, [], 0, false⟩), ([true, true, true, true, true, true], ⟨[1, 3, 4], [], false, [], 0, false⟩), ([true, true, true, true, true, true, true], ⟨[1, 3, 4], [], false, [], 0, false⟩), ([true, true, true, true, true, true, true, true], ⟨[1, 3, 4], [], false, [], 0, false⟩), ([true, true, true, true, true, true, true, true, true, true], ⟨[1, 3, 4, 5], [], false, [], 0, false⟩), ([true, true, true, true, true, true, true, true, true, true, true], ⟨[1, 3, 4, 5, 6], [], false, [], 0, false⟩)]
def qay (n : Nat) (x0 : Ins) : Option (Bool) := topF TT prog qay_C qay_cuts f62 (bodyOf f62) ⟨[], []⟩ [.val (.user 2)] [.val (.bool)] n x0
def qay_sp : FnSpec TT := ⟨[.val (.user 2)], [.val (.bool)], fun x => qay BIG x⟩
theorem qay_ok : FnOk TT prog 62 qay_sp := fnOk_of (C := qay_C) (by kernel_rfl) qay_env func62 (show f62.body = some (bodyOf f62) by kernel_rfl) (by kernel_rfl) (by kernel_rfl) (cuts := qay_cuts) fun x y h => ⟨BIG, h⟩
def qp_C : Ctx TT := ⟨tyOf, [], 0, [], layOf, drOf, pmOf⟩
theorem qp_env : EnvOk TT prog qp_C.E := envNil
def qp_cuts : List (Pos × Cut) := []
def qp (n : Nat) (x0 : Bool) (x1 : Int) : Option (Int) := topF TT prog qp_C qp_cuts f61 (bodyOf f61) ⟨[], []⟩ [.val (.bool), .val (.int .i64)] [.val (.int .i64)] n (x0, x1)
def qp_sp : FnSpec TT := ⟨[.val (.bool), .val (.int .i64)], [.val (.int .i64)], fun x => qp BIG x.1 x.2⟩
theorem qp_ok : FnOk TT prog 61 qp_sp := fnOk_of (C := qp_C) (by kernel_rfl) qp_env func61 (show f61.body = some (bodyOf f61) by kernel_rfl) (by kernel_rfl) (by kernel_rfl) (cuts := qp_cuts) fun x y h => ⟨BIG, h⟩
def qcl_C : Ctx TT := ⟨tyOf, [(62, qay_sp.toCall), (61, qp_sp.toCall)], 1, [], layOf, drOf, pmOf⟩
theorem qcl_env : EnvOk TT prog qcl_C.E := envG (fnCall_ok qay_ok) (envG (fnCall_ok qp_ok) (envNil))
def qcl_cuts : List (Pos × Cut) := []
def qcl (n : Nat) (x0 : Int) (x1 : List Ins) : Option (((List Ins × Unit) × Unit) × (Int × Unit)) := topG TT prog qcl_C qcl_cuts f60 (bodyOf f60) ⟨[], [], [], [], []⟩ [.val (.int .i64), .ptr 0 38 [.val (.list (.user 2))]] [.blk 38 [.val (.list (.user 2))]] [.val (.int .i64)] n (x0, (x1, ()), ())
def qcl_sp : GSpec TT := ⟨[.val (.int .i64), .ptr 0 38 [.val (.list (.user 2))]], [.blk 38 [.val (.list (.user 2))]], [.val (.int .i64)], fun x => qcl BIG x.1 x.2.1.1⟩
theorem qcl_ok : GOk TT prog 60 qcl_sp := gOk_of (C := qcl_C) (cuts := qcl_cuts) (by kernel_rfl) qcl_env func60 (show f60.body = some (bodyOf f60) by kernel_rfl) (by kernel_rfl) (by kernel_rfl) (by kernel_rfl) fun x y h => ⟨BIG, h⟩
def qw_C : Ctx TT := ⟨tyOf, [], 0, [], layOf, drOf, pmOf⟩
theorem qw_env : EnvOk TT prog qw_C.E := envNil
def qw_cuts : List (Pos × Cut) := []
def qw (n : Nat) (x0 : Ins) : Option (Bool) := topF TT prog qw_C qw_cuts f64 (bodyOf f64) ⟨[], []⟩ [.val (.user 2)] [.val (.bool)] n x0
def qw_sp : FnSpec TT := ⟨[.val (.user 2)], [.val (.bool)], fun x => qw BIG x⟩
theorem qw_ok : FnOk TT prog 64 qw_sp := fnOk_of (C := qw_C) (by kernel_rfl) qw_env func64 (show f64.body = some (bodyOf f64) by kernel_rfl) (by kernel_rfl) (by kernel_rfl) (cuts := qw_cuts) fun x y h => ⟨BIG, h⟩
def qcm_C : Ctx TT := ⟨tyOf, [(64, qw_sp.toCall), (61, qp_sp.toCall)], 1, [], layOf, drOf, pmOf⟩
theorem qcm_env : EnvOk TT prog qcm_C.E := envG (fnCall_ok qw_ok) (envG (fnCall_ok qp_ok) (envNil))
def qcm_cuts : List (Pos × Cut) := []
def qcm (n : Nat) (x0 : Int) (x1 : List Ins) : Option (((List Ins × Unit) × Unit) × (Int × Unit)) := topG TT prog qcm_C qcm_cuts f63 (bodyOf f63) ⟨[], [], [], [], []⟩ [.val (.int .i64), .ptr 0 38 [.val (.list (.user 2))]] [.blk 38 [.val (.list (.user 2))]] [.val (.int .i64)] n (x0, (x1, ()), ())
def qcm_sp : GSpec TT := ⟨[.val (.int .i64), .ptr 0 38 [.val (.list (.user 2))]], [.blk 38 [.val (.list (.user 2))]], [.val (.int .i64)], fun x => qcm BIG x.1 x.2.1.1⟩
theorem qcm_ok : GOk TT prog 63 qcm_sp := gOk_of (C := qcm_C) (cuts := qcm_cuts) (by kernel_rfl) qcm_env func63 (show f63.body = some (bodyOf f63) by kernel_rfl) (by kernel_rfl) (by kernel_rfl) (by kernel_rfl) fun x y h => ⟨BIG, h⟩
def qcn_C : Ctx TT := ⟨tyOf, [(61, qp_sp.toCall)], 1, [], layOf, drOf, pmOf⟩
theorem qcn_env : EnvOk TT prog qcn_C.E := envG (fnCall_ok qp_ok) (envNil)
def qcn_cuts : List (Pos × Cut) := []
def qcn (n : Nat) (x0 : Int) (x1 : List Ins) : Option (((List Ins × Unit) × Unit) × (Int × Unit)) := topG TT prog qcn_C qcn_cuts f65 (bodyOf f65) ⟨[], [], [], [], []⟩ [.val (.int .i64), .ptr 0 38 [.val (.list (.user 2))]] [.blk 38 [.val (.list (.user 2))]] [.val (.int .i64)] n (x0, (x1, ()), ())
def qcn_sp : GSpec TT := ⟨[.val (.int .i64), .ptr 0 38 [.val (.list (.user 2))]], [.blk 38 [.val (.list (.user 2))]], [.val (.int .i64)], fun x => qcn BIG x.1 x.2.1.1⟩
theorem qcn_ok : GOk TT prog 65 qcn_sp := gOk_of (C := qcn_C) (cuts := qcn_cuts) (by kernel_rfl) qcn_env func65 (show f65.body = some (bodyOf f65) by kernel_rfl) (by kernel_rfl) (by kernel_rfl) (by kernel_rfl) fun x y h => ⟨BIG, h⟩
def qbd_C : Ctx TT := ⟨tyOf, [], 0, [], layOf, drOf, pmOf⟩
theorem qbd_env : EnvOk TT prog qbd_C.E := envNil
def qbd_cuts : List (Pos × Cut) := [([true], ⟨[0, 2], [], false, [], 0, false⟩), ([true, true], ⟨[0, 2], [], false, [], 0, false⟩), ([true, true, true], ⟨[0, 2], [], false, [], 0, false⟩)]
def qbd (n : Nat) (x0 : Int) : Option (Int) := topF TT prog qbd_C qbd_cuts f231 (bodyOf f231) ⟨[], []⟩ [.val (.int .u64)] [.val (.int .i64)] n x0
def qbd_sp : FnSpec TT := ⟨[.val (.int .u64)], [.val (.int .i64)], fun x => qbd BIG x⟩
theorem qbd_ok : FnOk TT prog 231 qbd_sp := fnOk_of (C := qbd_C) (by kernel_rfl) qbd_env func231 (show f231.body = some (bodyOf f231) by kernel_rfl) (by kernel_rfl) (by kernel_rfl) (cuts := qbd_cuts) fun x y h => ⟨BIG, h⟩
def qah_C : Ctx TT := ⟨tyOf, [(231, qbd_sp.toCall)], 0, [], layOf, drOf, pmOf⟩
theorem qah_env : EnvOk TT prog qah_C.E := envG (fnCall_ok qbd_ok) (envNil)
def qah_cuts : List (Pos × Cut) := []
def qah (n : Nat) (x0 : Int) : Option (Int) := topF TT prog qah_C qah_cuts f174 (bodyOf f174) ⟨[], []⟩ [.val (.int .u64)] [.val (.int .i64)] n x0
def qah_sp : FnSpec TT := ⟨[.val (.int .u64)], [.val (.int .i64)], fun x => qah BIG x⟩
theorem qah_ok : FnOk TT prog 174 qah_sp := fnOk_of (C := qah_C) (by kernel_rfl) qah_env func174 (show f174.body = some (bodyOf f174) by kernel_rfl) (by kernel_rfl) (by kernel_rfl) (cuts := qah_cuts) fun x y h => ⟨BIG, h⟩
def qbq_C : Ctx TT := ⟨tyOf, [], 0, [], layOf, drOf, pmOf⟩
theorem qbq_env : EnvOk TT prog qbq_C.E := envNil
def qbq_cuts : List (Pos × Cut) := []
def qbq (n : Nat) (x0 : Int) : Option (Bool) := topF TT prog qbq_C qbq_cuts f300 (bodyOf f300) ⟨[], []⟩ [.val (.int .i64)] [.val (.bool)] n x0
def qbq_sp : FnSpec TT := ⟨[.val (.int .i64)], [.val (.bool)], fun x => qbq BIG x⟩
theorem qbq_ok : FnOk TT prog 300 qbq_sp := fnOk_of (C := qbq_C) (by kernel_rfl) qbq_env func300 (show f300.body = some (bodyOf f300) by kernel_rfl) (by kernel_rfl) (by kernel_rfl) (cuts := qbq_cuts) fun x y h => ⟨BIG, h⟩
def qaj_C : Ctx TT := ⟨tyOf, [(300, qbq_sp.toCall)], 0, [], layOf, drOf, pmOf⟩
theorem qaj_env : EnvOk TT prog qaj_C.E := envG (fnCall_ok qbq_ok) (envNil)
def qaj_cuts : List (Pos × Cut) := []
def qaj (n : Nat) (x0 x1 : Int) : Option (Bool) := topF TT prog qaj_C qaj_cuts f227 (bodyOf f227) ⟨[], []⟩ [.val (.int .i64), .val (.int .i64)] [.val (.bool)] n (x0, x1)
def qaj_sp : FnSpec TT := ⟨[.val (.int .i64), .val (.int .i64)], [.val (.bool)], fun x => qaj BIG x.1 x.2⟩
theorem qaj_ok : FnOk TT prog 227 qaj_sp := fnOk_of (C := qaj_C) (by kernel_rfl) qaj_env func227 (show f227.body = some (bodyOf f227) by kernel_rfl) (by kernel_rfl) (by kernel_rfl) (cuts := qaj_cuts) fun x y h => ⟨BIG, h⟩
def qbb_C : Ctx TT := ⟨tyOf, [(227, qaj_sp.toCall)], 1, [(6, 1)], layOf, drOf, pmOf⟩
theorem qbb_env : EnvOk TT prog qbb_C.E := envG (fnCall_ok qaj_ok) (envNil)
def qbb_cuts : List (Pos × Cut) := [([false, true], ⟨[0, 1, 2, 6], [], false, [], 0, false⟩), ([false, true, false, false, true, false, false, true], ⟨[0, 1, 2, 6, 7], [], false, [], 0, false⟩), ([false, false, false, true, false, false, true, false, false, true], ⟨[0, 1, 2, 6, 7, 30], [], false, [], 0, false⟩)]
def qbb (n : Nat) (x0 : List Int) (x1 x2 : Int) : Option (List Int × Unit) := topF TT prog qbb_C qbb_cuts f221 (bodyOf f221) ⟨[], []⟩ [.io 3 (.int .i64), .val (.int .i64), .val (.int .i64)] [] n (x0, x1, x2)
def qbb_sp : FnSpec TT := ⟨[.io 3 (.int .i64), .val (.int .i64), .val (.int .i64)], [], fun x => qbb BIG x.1 x.2.1 x.2.2⟩
theorem qbb_ok : FnOk TT prog 221 qbb_sp := fnOk_of (C := qbb_C) (by kernel_rfl) qbb_env func221 (show f221.body = some (bodyOf f221) by kernel_rfl) (by kernel_rfl) (by kernel_rfl) (cuts := qbb_cuts) fun x y h => ⟨BIG, h⟩
def qbc_C : Ctx TT := ⟨tyOf, [(221, qbb_sp.toCall)], 1, [], layOf, drOf, pmOf⟩
theorem qbc_env : EnvOk TT prog qbc_C.E := envG (fnCall_ok qbb_ok) (envNil)
def qbc_cuts : List (Pos × Cut) := [([false, true, true], ⟨[0, 1, 2, 3, 8, 9], [], false, [], 0, false⟩), ([true, true, true, false, false, false, true, true], ⟨[0, 1, 2, 3, 8, 9, 10], [], false, [], 0, false⟩)]
def qbc (n : Nat) (x0 : List Int) (x1 x2 x3 : Int) : Option (List Int × Unit) := topF TT prog qbc_C qbc_cuts f173 (bodyOf f173) ⟨[], []⟩ [.io 3 (.int .i64), .val (.int .i64), .val (.int .i64), .val (.int .i64)] [] n (x0, x1, x2, x3)
def qbc_sp : FnSpec TT := ⟨[.io 3 (.int .i64), .val (.int .i64), .val (.int .i64), .val (.int .i64)], [], fun x => qbc BIG x.1 x.2.1 x.2.2.1 x.2.2.2⟩
theorem qbc_ok : FnOk TT prog 173 qbc_sp := fnOk_of (C := qbc_C) (by kernel_rfl) qbc_env func173 (show f173.body = some (bodyOf f173) by kernel_rfl) (by kernel_rfl) (by kernel_rfl) (cuts := qbc_cuts) fun x y h => ⟨BIG, h⟩
def qcw_C : Ctx TT := ⟨tyOf, [(174, qah_sp.toCall), (173, qbc_sp.toCall)], 1, [], layOf, drOf, pmOf⟩
theorem qcw_env : EnvOk TT prog qcw_C.E := envG (fnCall_ok qah_ok) (envG (fnCall_ok qbc_ok) (envNil))
def qcw_cuts : List (Pos × Cut) := []
def qcw (n : Nat) (x0 : List Int) : Option (List Int × Unit) := topF TT prog qcw_C qcw_cuts f117 (bodyOf f117) ⟨[], []⟩ [.io 3 (.int .i64)] [] n x0
def qcw_sp : FnSpec TT := ⟨[.io 3 (.int .i64)], [], fun x => qcw BIG x⟩
theorem qcw_ok : FnOk TT prog 117 qcw_sp := fnOk_of (C := qcw_C) (by kernel_rfl) qcw_env func117 (show f117.body = some (bodyOf f117) by kernel_rfl) (by kernel_rfl) (by kernel_rfl) (cuts := qcw_cuts) fun x y h => ⟨BIG, h⟩
def qcy_C : Ctx TT := ⟨tyOf, [(227, qaj_sp.toCall)], 1, [(6, 1)], layOf, drOf, pmOf⟩
theorem qcy_env : EnvOk TT prog qcy_C.E := envG (fnCall_ok qaj_ok) (envNil)
def qcy_cuts : List (Pos × Cut) := [([false, true], ⟨[0, 1, 2, 6], [], false, [], 0, false⟩), ([false, true, false, false, true, false, false, true], ⟨[0, 1, 2, 6, 7], [], false, [], 0, false⟩), ([false, false, false, true, false, false, true, false, false, true], ⟨[0, 1, 2, 6, 7, 30], [], false, [], 0, false⟩)]
def qcy (n : Nat) (x0 : List Int) (x1 x2 : Nat) (x3 x4 : Int) : Option ((List Int × Unit) × (Unit)) := topG TT prog qcy_C qcy_cuts f221 (bodyOf f221) ⟨[], [], [], [], []⟩ [.slr 3 (.int .i64), .val (.int .i64), .val (.int .i64)] [.row 3 (.int .i64)] [] n ((x0, x1, x2), x3, x4, ())
def qcy_sp : GSpec TT := ⟨[.slr 3 (.int .i64), .val (.int .i64), .val (.int .i64)], [.row 3 (.int .i64)], [], fun x => qcy BIG x.1.1 x.1.2.1 x.1.2.2 x.2.1 x.2.2.1⟩
theorem qcy_ok : GOk TT prog 221 qcy_sp := gOk_of (C := qcy_C) (cuts := qcy_cuts) (by kernel_rfl) qcy_env func221 (show f221.body = some (bodyOf f221) by kernel_rfl) (by kernel_rfl) (by kernel_rfl) (by kernel_rfl) fun x y h => ⟨BIG, h⟩
def qcz_C : Ctx TT := ⟨tyOf, [(221, qcy_sp.toCall (qbb_sp.toCall))], 1, [], layOf, drOf, pmOf⟩
theorem qcz_env : EnvOk TT prog qcz_C.E := envG (gCall_ok qcy_ok (fnCall_ok qbb_ok)) (envNil)
def qcz_cuts : List (Pos × Cut) := [([false, true, true], ⟨[0, 1, 2, 3, 8, 9], [], false, [], 0, false⟩), ([true, true, true, false, false, false, true, true], ⟨[0, 1, 2, 3, 8, 9, 10], [], false, [], 0, false⟩)]
def qcz (n : Nat) (x0 : List Int) (x1 x2 : Nat) (x3 x4 x5 : Int) : Option ((List Int × Unit) × (Unit)) := topG TT prog qcz_C qcz_cuts f173 (bodyOf f173) ⟨[], [], [], [], []⟩ [.slr 3 (.int .i64), .val (.int .i64), .val (.int .i64), .val (.int .i64)] [.row 3 (.int .i64)] [] n ((x0, x1, x2), x3, x4, x5, ())
def qcz_sp : GSpec TT := ⟨[.slr 3 (.int .i64), .val (.int .i64), .val (.int .i64), .val (.int .i64)], [.row 3 (.int .i64)], [], fun x => qcz BIG x.1.1 x.1.2.1 x.1.2.2 x.2.1 x.2.2.1 x.2.2.2.1⟩
theorem qcz_ok : GOk TT prog 173 qcz_sp := gOk_of (C := qcz_C) (cuts := qcz_cuts) (by kernel_rfl) qcz_env func173 (show f173.body = some (bodyOf f173) by kernel_rfl) (by kernel_rfl) (by kernel_rfl) (by kernel_rfl) fun x y h => ⟨BIG, h⟩
def qcx_C : Ctx TT := ⟨tyOf, [(174, qah_sp.toCall), (173, qcz_sp.toCall (qbc_sp.toCall))], 1, [], layOf, drOf, pmOf⟩
theorem qcx_env : EnvOk TT prog qcx_C.E := envG (fnCall_ok qah_ok) (envG (gCall_ok qcz_ok (fnCall_ok qbc_ok)) (envNil))
def qcx_cuts : List (Pos × Cut) := []
def qcx (n : Nat) (x0 : List Int) (x1 x2 : Nat) : Option ((List Int × Unit) × (Unit)) := topG TT prog qcx_C qcx_cuts f117 (bodyOf f117) ⟨[], [], [], [], []⟩ [.slr 3 (.int .i64)] [.row 3 (.int .i64)] [] n ((x0, x1, x2), ())
def qcx_sp : GSpec TT := ⟨[.slr 3 (.int .i64)], [.row 3 (.int .i64)], [], fun x => qcx BIG x.1.1 x.1.2.1 x.1.2.2⟩
theorem qcx_ok : GOk TT prog 117 qcx_sp := gOk_of (C := qcx_C) (cuts := qcx_cuts) (by kernel_rfl) qcx_env func117 (show f117.body = some (bodyOf f117) by kernel_rfl) (by kernel_rfl) (by kernel_rfl) (by kernel_rfl) fun x y h => ⟨BIG, h⟩
def qcs_C : Ctx TT := ⟨tyOf, [], 1, [], layOf, drOf, pmOf⟩
theorem qcs_env : EnvOk TT prog qcs_C.E := envNil
def qcs_cuts : List (Pos × Cut) := [([false, true, false, true, true], ⟨[0, 3], [], false, [], 0, false⟩), ([false, true, false, true, false, true, false, false, true, false, false, true, false, true, true], ⟨[0, 3, 4, 5], [], false, [], 0, false⟩), ([true, false, false, true, false, true, false, true, false, false, true, false, false, true, false, true, true], ⟨[0, 3, 4, 5], [], false, [], 0, false⟩)]
def qcs (n : Nat) (x0 : List Int) (x1 x2 : Nat) : Option ((List Int × Unit) × ((Nat × Nat) × Unit)) := topG TT prog qcs_C qcs_cuts f118 (bodyOf f118) ⟨[], [], [], [], []⟩ [.slr 3 (.int .i64)] [.row 3 (.int .i64)] [.part 0 1] n ((x0, x1, x2), ())
def qcs_sp : GSpec TT := ⟨[.slr 3 (.int .i64)], [.row 3 (.int .i64)], [.part 0 1], fun x => qcs BIG x.1.1 x.1.2.1 x.1.2.2⟩
theorem qcs_ok : GOk TT prog 118 qcs_sp := gOk_of (C := qcs_C) (cuts := qcs_cuts) (by kernel_rfl) qcs_env func118 (show f118.body = some (bodyOf f118) by kernel_rfl) (by kernel_rfl) (by kernel_rfl) (by kernel_rfl) fun x y h => ⟨BIG, h⟩
def qct_C : Ctx TT := ⟨tyOf, [], 1, [], layOf, drOf, pmOf⟩
theorem qct_env : EnvOk TT prog qct_C.E := envNil
def qct_cuts : List (Pos × Cut) := [([false, true, false, true, true], ⟨[0, 3], [], false, [], 0, false⟩), ([false, true, false, true, false, true, false, false, true, false, false, true, false, true, true], ⟨[0, 3, 4, 5], [], false, [], 0, false⟩), ([true, false, false, true, false, true, false, true, false, false, true, false, false, true, false, true, true], ⟨[0, 3, 4, 5], [], false, [], 0, false⟩)]
def qct (n : Nat) (x0 : List Int) : Option ((List Int × Unit) × ((Nat × Nat) × Unit)) := topG TT prog qct_C qct_cuts f118 (bodyOf f118) ⟨[], [0], [], [], []⟩ [.row 3 (.int .i64)] [.row 3 (.int .i64)] [.part 0 1] n (x0, ())
def qct_sp : GSpec TT := ⟨[.row 3 (.int .i64)], [.row 3 (.int .i64)], [.part 0 1], fun x => qct BIG x.1⟩
theorem qct_ok : GOk TT prog 118 qct_sp := gOk_of (C := qct_C) (cuts := qct_cuts) (by kernel_rfl) qct_env func118 (show f118.body = some (bodyOf f118) by kernel_rfl) (by kernel_rfl) (by kernel_rfl) (by kernel_rfl) fun x y h => ⟨BIG, h⟩
def qbt_C : Ctx TT := ⟨tyOf, [(62, qay_sp.toCall), (64, qw_sp.toCall), (117, qcx_sp.toCall (qcw_sp.toCall)), (118, qct_sp.toCall (qcs_sp.toCall (noCall TT)))], 0, [], layOf, drOf, pmOf⟩
theorem qbt_env : EnvOk TT prog qbt_C.E := envG (fnCall_ok qay_ok) (envG (fnCall_ok qw_ok) (envG (gCall_ok qcx_ok (fnCall_ok qcw_ok)) (envG (gCall_ok qct_ok (gCall_ok qcs_ok (noCall_ok 118))) (envNil))))
def qbt_cuts : List (Pos × Cut) := [([false, true], ⟨[0, 1, 29], [], false, [], 0, false⟩), ([true, true, true], ⟨[0, 1, 5], [], false, [], 0, false⟩)]
def qbt (n : Nat) (x0 : List Ins) (x1 : Int) : Option ((Unit) × ((List Int × Nat × Nat) × Unit)) := topG TT prog qbt_C qbt_cuts f67 (bodyOf f67) ⟨[(0, 3, .int .i64, false)], [], [], [], []⟩ [.val (.list (.user 2)), .val (.int .i64)] [] [.slr 3 (.int .i64)] n (x0, x1, ())
def qbt_sp : GSpec TT := ⟨[.val (.list (.user 2)), .val (.int .i64)], [], [.slr 3 (.int .i64)], fun x => qbt BIG x.1 x.2.1⟩
theorem qbt_ok : GOk TT prog 67 qbt_sp := gOk_of (C := qbt_C) (cuts := qbt_cuts) (by kernel_rfl) qbt_env func67 (show f67.body = some (bodyOf f67) by kernel_rfl) (by kernel_rfl) (by kernel_rfl) (by kernel_rfl) fun x y h => ⟨BIG, h⟩
def qco_C : Ctx TT := ⟨tyOf, [(67, qbt_sp.toCall (noCall TT)), (61, qp_sp.toCall)], 3, [(4, 1)], layOf, drOf, pmOf⟩
theorem qco_env : EnvOk TT prog qco_C.E := envG (gCall_ok qbt_ok (noCall_ok 67)) (envG (fnCall_ok qp_ok) (envNil))
def qco_cuts : List (Pos × Cut) := [([false, true, false, true], ⟨[0, 2, 9, 10, 11], [], false, [], 0, false⟩), ([true, true, false, false, true, false, true], ⟨[0, 2, 9, 10, 11], [], false, [], 0, false⟩)]
def qco (n : Nat) (x0 : Int) (x1 : List Ins) (x2 : List Bool) : Option (((List Ins × Unit) × (Unit × Unit) × List Bool × Unit) × (Int × Unit)) := topG TT prog qco_C qco_cuts f66 (bodyOf f66) ⟨[], [], [], [], []⟩ [.val (.int .i64), .ptr 0 38 [.val (.list (.user 2))], .ptr 0 100 [.row 4 (.bool)]] [.blk 38 [.val (.list (.user 2))], .blk 100 [.own 2], .row 4 (.bool)] [.val (.int .i64)] n (x0, (x1, ()), (x2, ()), ())
def qco_sp : GSpec TT := ⟨[.val (.int .i64), .ptr 0 38 [.val (.list (.user 2))], .ptr 0 100 [.row 4 (.bool)]], [.blk 38 [.val (.list (.user 2))], .blk 100 [.own 2], .row 4 (.bool)], [.val (.int .i64)], fun x => qco BIG x.1 x.2.1.1 x.2.2.1.1⟩
theorem qco_ok : GOk TT prog 66 qco_sp := gOk_of (C := qco_C) (cuts := qco_cuts) (by kernel_rfl) qco_env func66 (show f66.body = some (bodyOf f66) by kernel_rfl) (by kernel_rfl) (by kernel_rfl) (by kernel_rfl) fun x y h => ⟨BIG, h⟩
def qcp_C : Ctx TT := ⟨tyOf, [(60, qcl_sp.toCall (noCall TT)), (63, qcm_sp.toCall (noCall TT)), (65, qcn_sp.toCall (noCall TT)), (66, qco_sp.toCall (noCall TT))], 4, [], layOf, drOf, pmOf⟩
theorem qcp_env : EnvOk TT prog qcp_C.E := envG (gCall_ok qcl_ok (noCall_ok 60)) (envG (gCall_ok qcm_ok (noCall_ok 63)) (envG (gCall_ok qcn_ok (noCall_ok 65)) (envG (gCall_ok qco_ok (noCall_ok 66)) (envNil))))
def qcp_cuts : List (Pos × Cut) := [([false, true, false, true], ⟨[0, 4, 9, 10, 11], [], true, [], 0, false⟩), ([false, true, true, false, false, true, true, false, false, true, false, true], ⟨[0, 4, 6, 9, 10, 11, 15, 16], [], false, [], 0, false⟩)]
def qcp (n : Nat) (x0 : Int) (x1 : List Ins) (x2 : List Bool) : Option (((((Unit) × (Unit × Unit)) × ((Unit) × (Unit × Unit)) × ((Unit) × (Unit × Unit)) × ((Unit) × (Unit × Unit × Unit)) × Unit) × (List Ins × Unit) × (Unit × Unit) × List Bool × Unit) × (Fault × Unit)) := topG TT prog qcp_C qcp_cuts f59 (bodyOf f59) ⟨[], [], [], [], []⟩ [.val (.int .i64), .slb 1 4 143 [.fn 60 [] [.ptr 0 38 [.val (.list (.user 2))]], .fn 63 [] [.at_ 1 0], .fn 65 [] [.at_ 1 0], .fn 66 [] [.at_ 1 0, .ptr 0 100 [.row 4 (.bool)]]]] [.blk 143 [.fn 60 [] [.at_ 1 0], .fn 63 [] [.at_ 1 0], .fn 65 [] [.at_ 1 0], .fn 66 [] [.at_ 1 0, .at_ 2 0]], .blk 38 [.val (.list (.user 2))], .blk 100 [.own 3], .row 4 (.bool)] [.val (.user 3)] n (x0, (((), ((x1, ()), ())), ((), ((), ())), ((), ((), ())), ((), ((), (x2, ()), ())), ()), ())
def qcp_sp : GSpec TT := ⟨[.val (.int .i64), .slb 1 4 143 [.fn 60 [] [.ptr 0 38 [.val (.list (.user 2))]], .fn 63 [] [.at_ 1 0], .fn 65 [] [.at_ 1 0], .fn 66 [] [.at_ 1 0, .ptr 0 100 [.row 4 (.bool)]]]], [.blk 143 [.fn 60 [] [.at_ 1 0], .fn 63 [] [.at_ 1 0], .fn 65 [] [.at_ 1 0], .fn 66 [] [.at_ 1 0, .at_ 2 0]], .blk 38 [.val (.list (.user 2))], .blk 100 [.own 3], .row 4 (.bool)], [.val (.user 3)], fun x => qcp BIG x.1 x.2.1.1.2.1.1 x.2.1.2.2.2.1.2.2.1.1⟩
theorem qcp_ok : GOk TT prog 59 qcp_sp := gOk_of (C := qcp_C) (cuts := qcp_cuts) (by kernel_rfl) qcp_env func59 (show f59.body = some (bodyOf f59) by kernel_rfl) (by kernel_rfl) (by kernel_rfl) (by kernel_rfl) fun x y h => ⟨BIG, h⟩
def qck_C : Ctx TT := ⟨tyOf, [(59, qcp_sp.toCall (noCall TT))], 0, [], layOf, drOf, pmOf⟩
theorem qck_env : EnvOk TT prog qck_C.E := envG (gCall_ok qcp_ok (noCall_ok 59)) (envNil)
def qck_cuts : List (Pos × Cut) := []
def qck (n : Nat) (x0 : List Ins) : Option (Fault) := topF TT prog qck_C qck_cuts f42 (bodyOf f42) ⟨[], []⟩ [.val (.list (.user 2))] [.val (.user 3)] n x0
def qck_sp : FnSpec TT := ⟨[.val (.list (.user 2))], [.val (.user 3)], fun x => qck BIG x⟩
theorem qck_ok : FnOk TT prog 42 qck_sp := fnOk_of (C := qck_C) (by kernel_rfl) qck_env func42 (show f42.body = some (bodyOf f42) by kernel_rfl) (by kernel_rfl) (by kernel_rfl) (cuts := qck_cuts) fun x y h => ⟨BIG, h⟩
end
end Go.X
