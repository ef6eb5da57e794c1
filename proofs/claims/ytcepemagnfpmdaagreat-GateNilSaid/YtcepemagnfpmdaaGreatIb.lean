import Derived.Test.YtcepemagnfpmdaaGreatIa
namespace Go.X
open Go.RowKit Go.V Go.Proofs Tryz
noncomputable section
def qdb_C : Ctx TT := ⟨tyOf, [], 0, [], layOf, drOf, pmOf⟩
theorem qdb_env : EnvOk TT prog qdb_C.E := envNil
def qdb_cuts : List (Pos × Cut) := []
def qdb (n : Nat)  : Option (List Bool) := topF TT prog qdb_C qdb_cuts f68 (bodyOf f68) ⟨[], [(0, .list (.bool))]⟩ [] [.val (.list (.bool))] n ()
def qdb_sp : FnSpec TT := ⟨[], [.val (.list (.bool))], fun _ => qdb BIG ⟩
theorem qdb_ok : FnOk TT prog 68 qdb_sp := fnOk_of (C := qdb_C) (by kernel_rfl) qdb_env func68 (show f68.body = some (bodyOf f68) by kernel_rfl) (by kernel_rfl) (by kernel_rfl) (cuts := qdb_cuts) fun x y h => ⟨BIG, h⟩
def qbe_C : Ctx TT := ⟨tyOf, [(68, qdb_sp.toCall)], 0, [(1, 1), (2, 1)], layOf, drOf, pmOf⟩
theorem qbe_env : EnvOk TT prog qbe_C.E := envG (fnCall_ok qdb_ok) (envNil)
def qbe_cuts : List (Pos × Cut) := []
def qbe (n : Nat)  : Option ((Unit) × ((Bool × List Known × List Bool × Int × Unit) × Unit)) := topG TT prog qbe_C qbe_cuts f44 (bodyOf f44) ⟨[], [], [], [], []⟩ [] [] [.agg [.val (.bool), .row 149 (.user 1), .val (.list (.bool)), .val (.int .i64)]] n ()
def qbe_sp : GSpec TT := ⟨[], [], [.agg [.val (.bool), .row 149 (.user 1), .val (.list (.bool)), .val (.int .i64)]], fun _ => qbe BIG ⟩
theorem qbe_ok : GOk TT prog 44 qbe_sp := gOk_of (C := qbe_C) (cuts := qbe_cuts) (by kernel_rfl) qbe_env func44 (show f44.body = some (bodyOf f44) by kernel_rfl) (by kernel_rfl) (by kernel_rfl) (by kernel_rfl) fun x y h => ⟨BIG, h⟩
def qcq_C : Ctx TT := ⟨tyOf, [], 0, [], layOf, drOf, pmOf⟩
theorem qcq_env : EnvOk TT prog qcq_C.E := envNil
def qcq_cuts : List (Pos × Cut) := []
def qcq (n : Nat) (x0 : List Known) : Option (List Known) := topF TT prog qcq_C qcq_cuts f69 (bodyOf f69) ⟨[], []⟩ [.val (.list (.user 1))] [.own 149 (.user 1)] n x0
def qcq_sp : FnSpec TT := ⟨[.val (.list (.user 1))], [.own 149 (.user 1)], fun x => qcq BIG x⟩
theorem qcq_ok : FnOk TT prog 69 qcq_sp := fnOk_of (C := qcq_C) (by kernel_rfl) qcq_env func69 (show f69.body = some (bodyOf f69) by kernel_rfl) (by kernel_rfl) (by kernel_rfl) (cuts := qcq_cuts) fun x y h => ⟨BIG, h⟩
def qcr_C : Ctx TT := ⟨tyOf, [], 0, [], layOf, drOf, pmOf⟩
theorem qcr_env : EnvOk TT prog qcr_C.E := envNil
def qcr_cuts : List (Pos × Cut) := []
def qcr (n : Nat) (x0 : List Bool) : Option (List Bool) := topF TT prog qcr_C qcr_cuts f70 (bodyOf f70) ⟨[], [(0, .list (.bool))]⟩ [.val (.list (.bool))] [.val (.list (.bool))] n x0
def qcr_sp : FnSpec TT := ⟨[.val (.list (.bool))], [.val (.list (.bool))], fun x => qcr BIG x⟩
theorem qcr_ok : FnOk TT prog 70 qcr_sp := fnOk_of (C := qcr_C) (by kernel_rfl) qcr_env func70 (show f70.body = some (bodyOf f70) by kernel_rfl) (by kernel_rfl) (by kernel_rfl) (cuts := qcr_cuts) fun x y h => ⟨BIG, h⟩
def qai_C : Ctx TT := ⟨tyOf, [(69, qcq_sp.toCall), (70, qcr_sp.toCall)], 1, [(1, 1)], layOf, drOf, pmOf⟩
theorem qai_env : EnvOk TT prog qai_C.E := envG (fnCall_ok qcq_ok) (envG (fnCall_ok qcr_ok) (envNil))
def qai_cuts : List (Pos × Cut) := []
def qai (n : Nat) (x0 : Bool) (x1 : List Known) (x2 : List Bool) (x3 : Int) : Option ((List Known × Unit) × ((Bool × List Known × List Bool × Int × Unit) × Unit)) := topG TT prog qai_C qai_cuts f45 (bodyOf f45) ⟨[], [], [], [], []⟩ [.agg [.val (.bool), .row 149 (.user 1), .val (.list (.bool)), .val (.int .i64)]] [.row 149 (.user 1)] [.agg [.val (.bool), .row 149 (.user 1), .val (.list (.bool)), .val (.int .i64)]] n ((x0, x1, x2, x3, ()), ())
def qai_sp : GSpec TT := ⟨[.agg [.val (.bool), .row 149 (.user 1), .val (.list (.bool)), .val (.int .i64)]], [.row 149 (.user 1)], [.agg [.val (.bool), .row 149 (.user 1), .val (.list (.bool)), .val (.int .i64)]], fun x => qai BIG x.1.1 x.1.2.1 x.1.2.2.1 x.1.2.2.2.1⟩
theorem qai_ok : GOk TT prog 45 qai_sp := gOk_of (C := qai_C) (cuts := qai_cuts) (by kernel_rfl) qai_env func45 (show f45.body = some (bodyOf f45) by kernel_rfl) (by kernel_rfl) (by kernel_rfl) (by kernel_rfl) fun x y h => ⟨BIG, h⟩
def qbf_C : Ctx TT := ⟨tyOf, [], 0, [], layOf, drOf, pmOf⟩
theorem qbf_env : EnvOk TT prog qbf_C.E := envNil
def qbf_cuts : List (Pos × Cut) := []
def qbf (n : Nat) (x0 : Int) : Option ((Unit) × (((Unit) × (Unit)) × Unit)) := topG TT prog qbf_C qbf_cuts f46 (bodyOf f46) ⟨[], [], [], [], []⟩ [.val (.int .u8)] [] [.fn 71 [] []] n (x0, ())
def qbf_sp : GSpec TT := ⟨[.val (.int .u8)], [], [.fn 71 [] []], fun x => qbf BIG x.1⟩
theorem qbf_ok : GOk TT prog 46 qbf_sp := gOk_of (C := qbf_C) (cuts := qbf_cuts) (by kernel_rfl) qbf_env func46 (show f46.body = some (bodyOf f46) by kernel_rfl) (by kernel_rfl) (by kernel_rfl) (by kernel_rfl) fun x y h => ⟨BIG, h⟩
def qbg_C : Ctx TT := ⟨tyOf, [], 0, [], layOf, drOf, pmOf⟩
theorem qbg_env : EnvOk TT prog qbg_C.E := envNil
def qbg_cuts : List (Pos × Cut) := []
def qbg (n : Nat) (x0 : Int) : Option ((Unit) × (((Unit) × (Unit)) × Unit)) := topG TT prog qbg_C qbg_cuts f46 (bodyOf f46) ⟨[], [], [], [], []⟩ [.val (.int .u8)] [] [.fn 72 [] []] n (x0, ())
def qbg_sp : GSpec TT := ⟨[.val (.int .u8)], [], [.fn 72 [] []], fun x => qbg BIG x.1⟩
theorem qbg_ok : GOk TT prog 46 qbg_sp := gOk_of (C := qbg_C) (cuts := qbg_cuts) (by kernel_rfl) qbg_env func46 (show f46.body = some (bodyOf f46) by kernel_rfl) (by kernel_rfl) (by kernel_rfl) (by kernel_rfl) fun x y h => ⟨BIG, h⟩
def qbh_C : Ctx TT := ⟨tyOf, [], 0, [], layOf, drOf, pmOf⟩
theorem qbh_env : EnvOk TT prog qbh_C.E := envNil
def qbh_cuts : List (Pos × Cut) := []
def qbh (n : Nat) (x0 : Int) : Option ((Unit) × (((Unit) × (Unit)) × Unit)) := topG TT prog qbh_C qbh_cuts f46 (bodyOf f46) ⟨[], [], [], [], []⟩ [.val (.int .u8)] [] [.fn 73 [] []] n (x0, ())
def qbh_sp : GSpec TT := ⟨[.val (.int .u8)], [], [.fn 73 [] []], fun x => qbh BIG x.1⟩
theorem qbh_ok : GOk TT prog 46 qbh_sp := gOk_of (C := qbh_C) (cuts := qbh_cuts) (by kernel_rfl) qbh_env func46 (show f46.body = some (bodyOf f46) by kernel_rfl) (by kernel_rfl) (by kernel_rfl) (by kernel_rfl) fun x y h => ⟨BIG, h⟩
def qbi_C : Ctx TT := ⟨tyOf, [], 0, [], layOf, drOf, pmOf⟩
theorem qbi_env : EnvOk TT prog qbi_C.E := envNil
def qbi_cuts : List (Pos × Cut) := []
def qbi (n : Nat) (x0 : Int) : Option ((Unit) × (((Unit) × (Unit)) × Unit)) := topG TT prog qbi_C qbi_cuts f46 (bodyOf f46) ⟨[], [], [], [], []⟩ [.val (.int .u8)] [] [.fn 74 [] []] n (x0, ())
def qbi_sp : GSpec TT := ⟨[.val (.int .u8)], [], [.fn 74 [] []], fun x => qbi BIG x.1⟩
theorem qbi_ok : GOk TT prog 46 qbi_sp := gOk_of (C := qbi_C) (cuts := qbi_cuts) (by kernel_rfl) qbi_env func46 (show f46.body = some (bodyOf f46) by kernel_rfl) (by kernel_rfl) (by kernel_rfl) (by kernel_rfl) fun x y h => ⟨BIG, h⟩
def qbj_C : Ctx TT := ⟨tyOf, [], 0, [], layOf, drOf, pmOf⟩
theorem qbj_env : EnvOk TT prog qbj_C.E := envNil
def qbj_cuts : List (Pos × Cut) := []
def qbj (n : Nat) (x0 : Int) : Option ((Unit) × (((Unit) × (Unit)) × Unit)) := topG TT prog qbj_C qbj_cuts f46 (bodyOf f46) ⟨[], [], [], [], []⟩ [.val (.int .u8)] [] [.fn 75 [] []] n (x0, ())
def qbj_sp : GSpec TT := ⟨[.val (.int .u8)], [], [.fn 75 [] []], fun x => qbj BIG x.1⟩
theorem qbj_ok : GOk TT prog 46 qbj_sp := gOk_of (C := qbj_C) (cuts := qbj_cuts) (by kernel_rfl) qbj_env func46 (show f46.body = some (bodyOf f46) by kernel_rfl) (by kernel_rfl) (by kernel_rfl) (by kernel_rfl) fun x y h => ⟨BIG, h⟩
def qbk_C : Ctx TT := ⟨tyOf, [], 0, [], layOf, drOf, pmOf⟩
theorem qbk_env : EnvOk TT prog qbk_C.E := envNil
def qbk_cuts : List (Pos × Cut) := []
def qbk (n : Nat) (x0 : Int) : Option ((Unit) × (((Unit) × (Unit)) × Unit)) := topG TT prog qbk_C qbk_cuts f46 (bodyOf f46) ⟨[], [], [], [], []⟩ [.val (.int .u8)] [] [.fn 76 [] []] n (x0, ())
def qbk_sp : GSpec TT := ⟨[.val (.int .u8)], [], [.fn 76 [] []], fun x => qbk BIG x.1⟩
theorem qbk_ok : GOk TT prog 46 qbk_sp := gOk_of (C := qbk_C) (cuts := qbk_cuts) (by kernel_rfl) qbk_env func46 (show f46.body = some (bodyOf f46) by kernel_rfl) (by kernel_rfl) (by kernel_rfl) (by kernel_rfl) fun x y h => ⟨BIG, h⟩
def check_does_g1_c0 (x0 : Int) : Bool := (decide (x0 = (14 : Int)))
def check_does_g1_c1 (x0 : Int) : Bool := ((!(decide (x0 = (14 : Int)))) && (decide (x0 = (15 : Int))))
def check_does_g1_c2 (x0 : Int) : Bool := ((!(decide (x0 = (14 : Int)))) && ((!(decide (x0 = (15 : Int)))) && (decide (x0 = (16 : Int)))))
def check_does_g1_c3 (x0 : Int) : Bool := ((!(decide (x0 = (14 : Int)))) && ((!(decide (x0 = (15 : Int)))) && ((!(decide (x0 = (16 : Int)))) && (decide (x0 = (28 : Int))))))
def check_does_g1_c4 (x0 : Int) : Bool := ((!(decide (x0 = (14 : Int)))) && ((!(decide (x0 = (15 : Int)))) && ((!(decide (x0 = (16 : Int)))) && ((!(decide (x0 = (28 : Int)))) && (decide (x0 <= (13 : Int)))))))
def qt_C : Ctx TT := ⟨tyOf, [], 0, [], layOf, drOf, pmOf⟩
theorem qt_env : EnvOk TT prog qt_C.E := envNil
def qt_cuts : List (Pos × Cut) := []
def qt (n : Nat) (x0 : Bool) (x1 : Int) : Option ((Unit) × ((Unit) ⊕ (Int × Unit))) := topP TT prog qt_C qt_cuts f122 (bodyOf f122) ⟨[], [], [], [], []⟩ [.val (.bool), .val (.int .i64)] [] [] (.ifc 34 (.val (.int .i64))) n (x0, x1, ())
def qt_sp : PSpec TT := ⟨[.val (.bool), .val (.int .i64)], [], [], .ifc 34 (.val (.int .i64)), fun x => qt BIG x.1 x.2.1⟩
theorem qt_ok : POk TT prog 122 qt_sp := pOk_of (C := qt_C) (cuts := qt_cuts) (by kernel_rfl) qt_env func122 (show f122.body = some (bodyOf f122) by kernel_rfl) (by kernel_rfl) (by kernel_rfl) (by kernel_rfl) fun x y h => ⟨BIG, h⟩
def qd_C : Ctx TT := ⟨tyOf, [(122, qt_sp.toCall (noCall TT))], 3, [], layOf, drOf, pmOf⟩
theorem qd_env : EnvOk TT prog qd_C.E := envG (pCall_ok qt_ok (noCall_ok 122)) (envNil)
def qd_cuts : List (Pos × Cut) := []
def qd (n : Nat) (x0 : List Ins) (x1 : List Place) (x2 : Int) (x3 : Bool) (x4 : List Known) (x5 : List Bool) (x6 : Int) (x7 : Known) : Option (((List Ins × Unit × Int × Bool × Unit × List Bool × Int × Unit) × List Place × List Known × Unit) × ((Span × Unit) ⊕ (Int × Unit))) := topP TT prog qd_C qd_cuts f123 (bodyOf f123) ⟨[], [], [], [], []⟩ [.ptr 0 104 [.val (.list (.user 2)), .dr 102 4 [0, 149, 0, 0], .val (.int .i64), .val (.bool), .row 149 (.user 1), .val (.list (.bool)), .val (.int .i64)], .val (.user 1)] [.blk 104 [.val (.list (.user 2)), .own 1, .val (.int .i64), .val (.bool), .own 2, .val (.list (.bool)), .val (.int .i64)], .dr 102 4 [0, 149, 0, 0], .row 149 (.user 1)] [.val (.user 0)] (.ifc 34 (.val (.int .i64))) n ((x0, x1, x2, x3, x4, x5, x6, ()), x7, ())
theorem qd_eq (n : Nat) (x0 x1 x2 x3 x4 x5 x6 x7) : qd n x0 x1 x2 x3 x4 x5 x6 x7 = obind (qt BIG (x7.Kind == (0 : Int)) (110 : Int)) fun y1 => match y1.2 with | .inl z1 => (forkB (x7.Kind != (1 : Int)) (obind (qt BIG (x7.Kind != (4 : Int)) (111 : Int)) fun y2 => match y2.2 with | .inl z2 => (forkB (x7.Kind == (4 : Int)) (some (((x0, (), x2, x3, (), x5, x6, ()), x1, x4, ()), .inl ((⟨IntKind.u64.wrap x6, (65535 : Int)⟩ : Span), ()))) (some (((x0, (), x2, x3, (), x5, x6, ()), x1, x4, ()), .inl ((⟨x7.In_Lo, x7.In_Hi⟩ : Span), ())))) | .inr e2 => (some (((x0, (), x2, x3, (), x5, x6, ()), x1, x4, ()), .inr (e2.1, ())))) (obind (qt BIG false (111 : Int)) fun y3 => match y3.2 with | .inl z3 => (forkB (x7.Kind == (4 : Int)) (some (((x0, (), x2, x3, (), x5, x6, ()), x1, x4, ()), .inl ((⟨IntKind.u64.wrap x6, (65535 : Int)⟩ : Span), ()))) (some (((x0, (), x2, x3, (), x5, x6, ()), x1, x4, ()), .inl ((⟨x7.In_Lo, x7.In_Hi⟩ : Span), ())))) | .inr e3 => (some (((x0, (), x2, x3, (), x5, x6, ()), x1, x4, ()), .inr (e3.1, ()))))) | .inr e1 => (some (((x0, (), x2, x3, (), x5, x6, ()), x1, x4, ()), .inr (e1.1, ()))) := by kernel_rfl
def qd_sp : PSpec TT := ⟨[.ptr 0 104 [.val (.list (.user 2)), .dr 102 4 [0, 149, 0, 0], .val (.int .i64), .val (.bool), .row 149 (.user 1), .val (.list (.bool)), .val (.int .i64)], .val (.user 1)], [.blk 104 [.val (.list (.user 2)), .own 1, .val (.int .i64), .val (.bool), .own 2, .val (.list (.bool)), .val (.int .i64)], .dr 102 4 [0, 149, 0, 0], .row 149 (.user 1)], [.val (.user 0)], .ifc 34 (.val (.int .i64)), fun x => qd BIG x.1.1 x.1.2.1 x.1.2.2.1 x.1.2.2.2.1 x.1.2.2.2.2.1 x.1.2.2.2.2.2.1 x.1.2.2.2.2.2.2.1 x.2.1⟩
theorem qd_ok : POk TT prog 123 qd_sp := pOk_of (C := qd_C) (cuts := qd_cuts) (by kernel_rfl) qd_env func123 (show f123.body = some (bodyOf f123) by kernel_rfl) (by kernel_rfl) (by kernel_rfl) (by kernel_rfl) fun x y h => ⟨BIG, h⟩
theorem qd_ky (x0 : List Ins) (x1 : List Place) (x2 : Int) (x3 : Bool) (x4 : List Known) (x5 : List Bool) (x6 : Int) (x7 : Known) (y) (h : qd BIG x0 x1 x2 x3 x4 x5 x6 x7 = some y) : y.1 = ((x0, (), x2, x3, (), x5, x6, ()), x1, x4, ()) := by
 rw [qd_eq] at h
 try simp only [forkB, obind] at h
 repeat' split at h
 all_goals first | (cases h; done) | (cases h; rfl)
theorem qd_stays : ∀ x y, qd_sp.g x = some y -> Stays qd_sp.ps qd_sp.post x y.1 := by
 intro x y h σ m
 have e : qd_sp.g x = qd BIG x.1.1 x.1.2.1 x.1.2.2.1 x.1.2.2.2.1 x.1.2.2.2.2.1 x.1.2.2.2.2.2.1 x.1.2.2.2.2.2.2.1 x.2.1 := by kernel_rfl
 show mkP TT σ qd_sp.post y.1 m = Ent.blk 104 (kcells TT σ [.val (.list (.user 2)), .dr 102 4 [0, 149, 0, 0], .val (.int .i64), .val (.bool), .row 149 (.user 1), .val (.list (.bool)), .val (.int .i64)] x.1 1) :: kents TT [.val (.list (.user 2)), .dr 102 4 [0, 149, 0, 0], .val (.int .i64), .val (.bool), .row 149 (.user 1), .val (.list (.bool)), .val (.int .i64)] x.1
 rw [qd_ky x.1.1 x.1.2.1 x.1.2.2.1 x.1.2.2.2.1 x.1.2.2.2.2.1 x.1.2.2.2.2.2.1 x.1.2.2.2.2.2.2.1 x.2.1 y (e.symm.trans h)]
 kernel_rfl
def qbn_C : Ctx TT := ⟨tyOf, [(123, qd_sp.toKeep (noCall TT))], 3, [], layOf, drOf, pmOf⟩
theorem qbn_env : EnvOk TT prog qbn_C.E := envG (pKeep_ok qd_ok qd_stays (noCall_ok 123)) (envNil)
def qbn_cuts : List (Pos × Cut) := []
def qbn (n : Nat) (x0 : List Ins) (x1 : List Place) (x2 : Int) (x3 : Bool) (x4 : List Known) (x5 : List Bool) (x6 : Int) (x7 : Ins) : Option (((List Ins × Unit × Int × Bool × Unit × List Bool × Int × Unit) × List Place × List Known × Unit) × ((Unit) ⊕ (Int × Unit))) := topP TT prog qbn_C qbn_cuts f74 (bodyOf f74) ⟨[], [], [], [], []⟩ [.ptr 0 104 [.val (.list (.user 2)), .dr 102 4 [0, 149, 0, 0], .val (.int .i64), .val (.bool), .row 149 (.user 1), .val (.list (.bool)), .val (.int .i64)], .val (.user 2)] [.blk 104 [.val (.list (.user 2)), .own 1, .val (.int .i64), .val (.bool), .own 2, .val (.list (.bool)), .val (.int .i64)], .dr 102 4 [0, 149, 0, 0], .row 149 (.user 1)] [] (.ifc 34 (.val (.int .i64))) n ((x0, x1, x2, x3, x4, x5, x6, ()), x7, ())
def qbn_sp : PSpec TT := ⟨[.ptr 0 104 [.val (.list (.user 2)), .dr 102 4 [0, 149, 0, 0], .val (.int .i64), .val (.bool), .row 149 (.user 1), .val (.list (.bool)), .val (.int .i64)], .val (.user 2)], [.blk 104 [.val (.list (.user 2)), .own 1, .val (.int .i64), .val (.bool), .own 2, .val (.list (.bool)), .val (.int .i64)], .dr 102 4 [0, 149, 0, 0], .row 149 (.user 1)], [], .ifc 34 (.val (.int .i64)), fun x => qbn BIG x.1.1 x.1.2.1 x.1.2.2.1 x.1.2.2.2.1 x.1.2.2.2.2.1 x.1.2.2.2.2.2.1 x.1.2.2.2.2.2.2.1 x.2.1⟩
theorem qbn_ok : POk TT prog 74 qbn_sp := pOk_of (C := qbn_C) (cuts := qbn_cuts) (by kernel_rfl) qbn_env func74 (show f74.body = some (bodyOf f74) by kernel_rfl) (by kernel_rfl) (by kernel_rfl) (by kernel_rfl) fun x y h => ⟨BIG, h⟩
def qdc_C : Ctx TT := ⟨tyOf, [], 7, [(2, 1)], layOf, drOf, pmOf⟩
theorem qdc_env : EnvOk TT prog qdc_C.E := envNil
def qdc (x0 : List Ins) (x1 : List Place) (x2 : Int) (x3 : Bool) (x4 : List Known) (x5 : List Bool) (x6 : Int) (x7 : List Place) (x8 x9 x10 : Int) : Option ((Unit × Unit) × (List Ins × Unit × Int × Bool × Unit × List Bool × Int × Unit) × List Place × List Known × (Unit × Unit) × List Place × (Int × Int × Unit) × Unit) := topDf prog qdc_C f43 (bodyOf f43) [.ptr 0 98 [.ptr 0 104 [.val (.list (.user 2)), .dr 102 4 [0, 149, 0, 0], .val (.int .i64), .val (.bool), .row 149 (.user 1), .val (.list (.bool)), .val (.int .i64)]], .ptr 0 80 [.dr 102 4 [0, 149, 0, 0]], .ptr 0 36 [.val (.int .i64), .val (.int .i64)]] (.ifc 34 (.val (.int .i64))) [.blk 98 [.at_ 1 0], .blk 104 [.val (.list (.user 2)), .own 2, .val (.int .i64), .val (.bool), .own 3, .val (.list (.bool)), .val (.int .i64)], .dr 102 4 [0, 149, 0, 0], .row 149 (.user 1), .blk 80 [.nils], .dr 102 4 [0, 149, 0, 0], .blk 36 [.val (.int .i64), .val (.int .i64)]] (((x0, x1, x2, x3, x4, x5, x6, ()), ()), (x7, ()), (x8, x9, ()), x10, ())
def qdc_dsp : DSpec TT := ⟨[.ptr 0 98 [.ptr 0 104 [.val (.list (.user 2)), .dr 102 4 [0, 149, 0, 0], .val (.int .i64), .val (.bool), .row 149 (.user 1), .val (.list (.bool)), .val (.int .i64)]], .ptr 0 80 [.dr 102 4 [0, 149, 0, 0]], .ptr 0 36 [.val (.int .i64), .val (.int .i64)]], .ifc 34 (.val (.int .i64)), [.blk 98 [.at_ 1 0], .blk 104 [.val (.list (.user 2)), .own 2, .val (.int .i64), .val (.bool), .own 3, .val (.list (.bool)), .val (.int .i64)], .dr 102 4 [0, 149, 0, 0], .row 149 (.user 1), .blk 80 [.nils], .dr 102 4 [0, 149, 0, 0], .blk 36 [.val (.int .i64), .val (.int .i64)]], fun x => qdc x.1.1.1 x.1.1.2.1 x.1.1.2.2.1 x.1.1.2.2.2.1 x.1.1.2.2.2.2.1 x.1.1.2.2.2.2.2.1 x.1.1.2.2.2.2.2.2.1 x.2.1.1 x.2.2.1.1 x.2.2.1.2.1 x.2.2.2.1⟩
theorem qdc_dok : DOk TT prog 43 qdc_dsp := dOk_of (C := qdc_C) (by kernel_rfl) qdc_env func43 (show f43.body = some (bodyOf f43) by kernel_rfl) (by kernel_rfl) (by kernel_rfl) (by kernel_rfl) (by kernel_rfl) fun x y h => h
def qag_C : Ctx TT := ⟨tyOf, [], 0, [], layOf, drOf, pmOf⟩
theorem qag_env : EnvOk TT prog qag_C.E := envNil
def qag_cuts : List (Pos × Cut) := []
def qag (n : Nat) (x0 : Int) : Option (Span) := topF TT prog qag_C qag_cuts f180 (bodyOf f180) ⟨[], []⟩ [.val (.int .u64)] [.val (.user 0)] n x0
def qag_sp : FnSpec TT := ⟨[.val (.int .u64)], [.val (.user 0)], fun x => qag BIG x⟩
theorem qag_ok : FnOk TT prog 180 qag_sp := fnOk_of (C := qag_C) (by kernel_rfl) qag_env func180 (show f180.body = some (bodyOf f180) by kernel_rfl) (by kernel_rfl) (by kernel_rfl) (cuts := qag_cuts) fun x y h => ⟨BIG, h⟩
def qe_C : Ctx TT := ⟨tyOf, [(180, qag_sp.toCall)], 3, [(3, 1)], layOf, drOf, pmOf⟩
theorem qe_env : EnvOk TT prog qe_C.E := envG (fnCall_ok qag_ok) (envNil)
def qe_cuts : List (Pos × Cut) := []
def qe (n : Nat) (x0 : List Ins) (x1 : List Place) (x2 : Int) (x3 : Bool) (x4 : List Known) (x5 : List Bool) (x6 : Int) (x7 : Ins) : Option (((List Ins × Unit × Int × Bool × Unit × List Bool × Int × Unit) × List Place × List Known × Unit) × (Known × Unit)) := topG TT prog qe_C qe_cuts f125 (bodyOf f125) ⟨[], [], [], [], []⟩ [.ptr 0 104 [.val (.list (.user 2)), .dr 102 4 [0, 149, 0, 0], .val (.int .i64), .val (.bool), .row 149 (.user 1), .val (.list (.bool)), .val (.int .i64)], .val (.user 2)] [.blk 104 [.val (.list (.user 2)), .own 1, .val (.int .i64), .val (.bool), .own 2, .val (.list (.bool)), .val (.int .i64)], .dr 102 4 [0, 149, 0, 0], .row 149 (.user 1)] [.val (.user 1)] n ((x0, x1, x2, x3, x4, x5, x6, ()), x7, ())
theorem qe_eq (n : Nat) (x0 x1 x2 x3 x4 x5 x6 x7) : qe n x0 x1 x2 x3 x4 x5 x6 x7 = forkB x7.UseImm (obind (qag BIG (IntKind.u64.wrap x7.Imm)) fun y1 => some (((x0, (), x2, x3, (), x5, x6, ()), x1, x4, ()), ((⟨(1 : Int), y1.Lo, y1.Hi⟩ : Known), ()))) (if 0 <= x7.Src /\ x7.Src < ((x4.length : Nat) : Int) then (some (((x0, (), x2, x3, (), x5, x6, ()), x1, x4, ()), (x4.getD x7.Src.toNat dKnown, ()))) else none) := by kernel_rfl
def qe_sp : GSpec TT := ⟨[.ptr 0 104 [.val (.list (.user 2)), .dr 102 4 [0, 149, 0, 0], .val (.int .i64), .val (.bool), .row 149 (.user 1), .val (.list (.bool)), .val (.int .i64)], .val (.user 2)], [.blk 104 [.val (.list (.user 2)), .own 1, .val (.int .i64), .val (.bool), .own 2, .val (.list (.bool)), .val (.int .i64)], .dr 102 4 [0, 149, 0, 0], .row 149 (.user 1)], [.val (.user 1)], fun x => qe BIG x.1.1 x.1.2.1 x.1.2.2.1 x.1.2.2.2.1 x.1.2.2.2.2.1 x.1.2.2.2.2.2.1 x.1.2.2.2.2.2.2.1 x.2.1⟩
theorem qe_ok : GOk TT prog 125 qe_sp := gOk_of (C := qe_C) (cuts := qe_cuts) (by kernel_rfl) qe_env func125 (show f125.body = some (bodyOf f125) by kernel_rfl) (by kernel_rfl) (by kernel_rfl) (by kernel_rfl) fun x y h => ⟨BIG, h⟩
theorem qe_ky (x0 : List Ins) (x1 : List Place) (x2 : Int) (x3 : Bool) (x4 : List Known) (x5 : List Bool) (x6 : Int) (x7 : Ins) (y) (h : qe BIG x0 x1 x2 x3 x4 x5 x6 x7 = some y) : y.1 = ((x0, (), x2, x3, (), x5, x6, ()), x1, x4, ()) := by
 rw [qe_eq] at h
 try simp only [forkB, obind] at h
 repeat' split at h
 all_goals first | (cases h; done) | (cases h; rfl)
theorem qe_stays : ∀ x y, qe_sp.g x = some y -> Stays qe_sp.ps qe_sp.post x y.1 := by
 intro x y h σ m
 have e : qe_sp.g x = qe BIG x.1.1 x.1.2.1 x.1.2.2.1 x.1.2.2.2.1 x.1.2.2.2.2.1 x.1.2.2.2.2.2.1 x.1.2.2.2.2.2.2.1 x.2.1 := by kernel_rfl
 show mkP TT σ qe_sp.post y.1 m = Ent.blk 104 (kcells TT σ [.val (.list (.user 2)), .dr 102 4 [0, 149, 0, 0], .val (.int .i64), .val (.bool), .row 149 (.user 1), .val (.list (.bool)), .val (.int .i64)] x.1 1) :: kents TT [.val (.list (.user 2)), .dr 102 4 [0, 149, 0, 0], .val (.int .i64), .val (.bool), .row 149 (.user 1), .val (.list (.bool)), .val (.int .i64)] x.1
 rw [qe_ky x.1.1 x.1.2.1 x.1.2.2.1 x.1.2.2.2.1 x.1.2.2.2.2.1 x.1.2.2.2.2.2.1 x.1.2.2.2.2.2.2.1 x.2.1 y (e.symm.trans h)]
 kernel_rfl
def qda_C : Ctx TT := ⟨tyOf, [], 0, [], layOf, drOf, pmOf⟩
theorem qda_env : EnvOk TT prog qda_C.E := envNil
def qda_cuts : List (Pos × Cut) := []
def qda (n : Nat) (x0 : Span) : Option (Bool) := topF TT prog qda_C qda_cuts f187 (bodyOf f187) ⟨[], []⟩ [.val (.user 0)] [.val (.bool)] n x0
def qda_sp : FnSpec TT := ⟨[.val (.user 0)], [.val (.bool)], fun x => qda BIG x⟩
theorem qda_ok : FnOk TT prog 187 qda_sp := fnOk_of (C := qda_C) (by kernel_rfl) qda_env func187 (show f187.body = some (bodyOf f187) by kernel_rfl) (by kernel_rfl) (by kernel_rfl) (cuts := qda_cuts) fun x y h => ⟨BIG, h⟩
def qcb_C : Ctx TT := ⟨tyOf, [(180, qag_sp.toCall), (187, qda_sp.toCall)], 0, [], layOf, drOf, pmOf⟩
theorem qcb_env : EnvOk TT prog qcb_C.E := envG (fnCall_ok qag_ok) (envG (fnCall_ok qda_ok) (envNil))
def qcb_cuts : List (Pos × Cut) := [([false, true, false, true], ⟨[1], [], false, [], 0, false⟩), ([false, false, false, false, true, false, true], ⟨[1], [], false, [], 0, false⟩)]
def qcb (n : Nat) (x0 : Known) : Option (Bool) := topF TT prog qcb_C qcb_cuts f183 (bodyOf f183) ⟨[], []⟩ [.val (.user 1)] [.val (.bool)] n x0
def qcb_sp : FnSpec TT := ⟨[.val (.user 1)], [.val (.bool)], fun x => qcb BIG x⟩
theorem qcb_ok : FnOk TT prog 183 qcb_sp := fnOk_of (C := qcb_C) (by kernel_rfl) qcb_env func183 (show f183.body = some (bodyOf f183) by kernel_rfl) (by kernel_rfl) (by kernel_rfl) (cuts := qcb_cuts) fun x y h => ⟨BIG, h⟩
def qcc_C : Ctx TT := ⟨tyOf, [], 0, [(3, 1)], layOf, drOf, pmOf⟩
theorem qcc_env : EnvOk TT prog qcc_C.E := envNil
def qcc_cuts : List (Pos × Cut) := []
def qcc (n : Nat) (x0 : Known) : Option (Span × Bool) := topF TT prog qcc_C qcc_cuts f184 (bodyOf f184) ⟨[], []⟩ [.val (.user 1)] [.val (.user 0), .val (.bool)] n x0
def qcc_sp : FnSpec TT := ⟨[.val (.user 1)], [.val (.user 0), .val (.bool)], fun x => qcc BIG x⟩
theorem qcc_ok : FnOk TT prog 184 qcc_sp := fnOk_of (C := qcc_C) (by kernel_rfl) qcc_env func184 (show f184.body = some (bodyOf f184) by kernel_rfl) (by kernel_rfl) (by kernel_rfl) (cuts := qcc_cuts) fun x y h => ⟨BIG, h⟩
def qca_C : Ctx TT := ⟨tyOf, [(183, qcb_sp.toCall), (184, qcc_sp.toCall)], 0, [(20, 1)], layOf, drOf, pmOf⟩
theorem qca_env : EnvOk TT prog qca_C.E := envG (fnCall_ok qcb_ok) (envG (fnCall_ok qcc_ok) (envNil))
def qca_cuts : List (Pos × Cut) := [([true], ⟨[0, 1, 6, 7, 8], [], false, [], 0, false⟩), ([false, false, true], ⟨[0, 1, 6, 7, 8, 15], [], false, [], 0, false⟩), ([true, true, false, false, true], ⟨[0, 1, 6, 7, 8, 33], [], false, [], 0, false⟩), ([true, true, true, true, false, false, true], ⟨[0, 1, 6, 7, 8, 51], [], false, [], 0, false⟩), ([true, true, true, true], ⟨[0, 1, 6, 8, 10, 11, 12, 13, 14], [], false, [], 0, false⟩), ([false, false, true, true, true, true, true], ⟨[0, 1, 6, 8, 10, 11, 12, 13, 14, 90], [], false, [], 0, false⟩), ([true, true, false, false, true, true, true, true, true], ⟨[0, 1, 6, 8, 10, 12, 14, 109], [], false, [], 0, false⟩), ([true, true, true, true, false, false, true, true, true, true, true], ⟨[0, 6, 8, 12, 120], [], false, [], 0, false⟩), ([false, true, true, true, true, false, false, true, true, true, true, true], ⟨[0, 6, 8, 12, 14, 120], [], false, [], 0, false⟩)]
def qca (n : Nat) (x0 : Int) (x1 : Bool) (x2 x3 : Known) : Option (Known × Int) := topF TT prog qca_C qca_cuts f128 (bodyOf f128) ⟨[], []⟩ [.val (.int .u8), .val (.bool), .val (.user 1), .val (.user 1)] [.val (.user 1), .val (.int .i64)] n (x0, x1, x2, x3)
def qca_sp : FnSpec TT := ⟨[.val (.int .u8), .val (.bool), .val (.user 1), .val (.user 1)], [.val (.user 1), .val (.int .i64)], fun x => qca BIG x.1 x.2.1 x.2.2.1 x.2.2.2⟩
theorem qca_ok : FnOk TT prog 128 qca_sp := fnOk_of (C := qca_C) (by kernel_rfl) qca_env func128 (show f128.body = some (bodyOf f128) by kernel_rfl) (by kernel_rfl) (by kernel_rfl) (cuts := qca_cuts) fun x y h => ⟨BIG, h⟩
def qbl_C : Ctx TT := ⟨tyOf, [(122, qt_sp.toCall (noCall TT))], 0, [], layOf, drOf, pmOf⟩
theorem qbl_env : EnvOk TT prog qbl_C.E := envG (pCall_ok qt_ok (noCall_ok 122)) (envNil)
def qbl_cuts : List (Pos × Cut) := []
def qbl (n : Nat) (x0 : Int) : Option ((Unit) × ((Unit) ⊕ (Int × Unit))) := topP TT prog qbl_C qbl_cuts f119 (bodyOf f119) ⟨[], [], [], [], []⟩ [.val (.int .i64)] [] [] (.ifc 34 (.val (.int .i64))) n (x0, ())
def qbl_sp : PSpec TT := ⟨[.val (.int .i64)], [], [], .ifc 34 (.val (.int .i64)), fun x => qbl BIG x.1⟩
theorem qbl_ok : POk TT prog 119 qbl_sp := pOk_of (C := qbl_C) (cuts := qbl_cuts) (by kernel_rfl) qbl_env func119 (show f119.body = some (bodyOf f119) by kernel_rfl) (by kernel_rfl) (by kernel_rfl) (by kernel_rfl) fun x y h => ⟨BIG, h⟩
def qbp_C : Ctx TT := ⟨tyOf, [(45, qai_sp.toCall (noCall TT))], 3, [(7, 1), (9, 1)], layOf, drOf, pmOf⟩
theorem qbp_env : EnvOk TT prog qbp_C.E := envG (gCall_ok qai_ok (noCall_ok 45)) (envNil)
def qbp_cuts : List (Pos × Cut) := [([false, true, false, true, true, true], ⟨[5, 6, 27, 28], [], false, [], 0, false⟩)]
def qbp (n : Nat) (x0 : List Ins) (x1 : List Place) (x2 : Int) (x3 : Bool) (x4 : List Known) (x5 : List Bool) (x6 x7 : Int) (x8 : Bool) (x9 : List Bool) (x10 : Int) : Option (((List Ins × Unit × Int × Bool × Unit × List Bool × Int × Unit) × List Place × List Known × Unit) × (Unit)) := topG TT prog qbp_C qbp_cuts f179 (bodyOf f179) ⟨[], [], [(0, 0, 4000000001, .bool)], [], []⟩ [.ptr 0 104 [.val (.list (.user 2)), .dr 102 4 [0, 149, 0, 0], .val (.int .i64), .val (.bool), .row 149 (.user 1), .val (.list (.bool)), .val (.int .i64)], .val (.int .i64), .agg [.val (.bool), .own 2, .val (.list (.bool)), .val (.int .i64)]] [.blk 104 [.val (.list (.user 2)), .own 1, .val (.int .i64), .val (.bool), .own 2, .val (.list (.bool)), .val (.int .i64)], .dr 102 4 [0, 149, 0, 0], .row 149 (.user 1)] [] n ((x0, x1, x2, x3, x4, x5, x6, ()), x7, (x8, (), x9, x10, ()), ())
def qbp_sp : GSpec TT := ⟨[.ptr 0 104 [.val (.list (.user 2)), .dr 102 4 [0, 149, 0, 0], .val (.int .i64), .val (.bool), .row 149 (.user 1), .val (.list (.bool)), .val (.int .i64)], .val (.int .i64), .agg [.val (.bool), .own 2, .val (.list (.bool)), .val (.int .i64)]], [.blk 104 [.val (.list (.user 2)), .own 1, .val (.int .i64), .val (.bool), .own 2, .val (.list (.bool)), .val (.int .i64)], .dr 102 4 [0, 149, 0, 0], .row 149 (.user 1)], [], fun x => qbp BIG x.1.1 x.1.2.1 x.1.2.2.1 x.1.2.2.2.1 x.1.2.2.2.2.1 x.1.2.2.2.2.2.1 x.1.2.2.2.2.2.2.1 x.2.1 x.2.2.1.1 x.2.2.1.2.2.1 x.2.2.1.2.2.2.1⟩
theorem qbp_ok : GOk TT prog 179 qbp_sp := gOk_of (C := qbp_C) (cuts := qbp_cuts) (by kernel_rfl) qbp_env func179 (show f179.body = some (bodyOf f179) by kernel_rfl) (by kernel_rfl) (by kernel_rfl) (by kernel_rfl) fun x y h => ⟨BIG, h⟩
def qbm_C : Ctx TT := ⟨tyOf, [(179, qbp_sp.toCall (noCall TT))], 3, [(1, 1)], layOf, drOf, pmOf⟩
theorem qbm_env : EnvOk TT prog qbm_C.E := envG (gCall_ok qbp_ok (noCall_ok 179)) (envNil)
def qbm_cuts : List (Pos × Cut) := []
def qbm (n : Nat) (x0 : List Ins) (x1 : List Place) (x2 : Int) (x3 : Bool) (x4 : List Known) (x5 : List Bool) (x6 : Int) (x7 : Bool) (x8 : List Bool) (x9 : Int) : Option (((List Ins × Unit × Int × Bool × Unit × List Bool × Int × Unit) × List Place × List Known × Unit) × (Unit)) := topG TT prog qbm_C qbm_cuts f124 (bodyOf f124) ⟨[], [], [], [], []⟩ [.ptr 0 104 [.val (.list (.user 2)), .dr 102 4 [0, 149, 0, 0], .val (.int .i64), .val (.bool), .row 149 (.user 1), .val (.list (.bool)), .val (.int .i64)], .agg [.val (.bool), .own 2, .val (.list (.bool)), .val (.int .i64)]] [.blk 104 [.val (.list (.user 2)), .own 1, .val (.int .i64), .val (.bool), .own 2, .val (.list (.bool)), .val (.int .i64)], .dr 102 4 [0, 149, 0, 0], .row 149 (.user 1)] [] n ((x0, x1, x2, x3, x4, x5, x6, ()), (x7, (), x8, x9, ()), ())
def qbm_sp : GSpec TT := ⟨[.ptr 0 104 [.val (.list (.user 2)), .dr 102 4 [0, 149, 0, 0], .val (.int .i64), .val (.bool), .row 149 (.user 1), .val (.list (.bool)), .val (.int .i64)], .agg [.val (.bool), .own 2, .val (.list (.bool)), .val (.int .i64)]], [.blk 104 [.val (.list (.user 2)), .own 1, .val (.int .i64), .val (.bool), .own 2, .val (.list (.bool)), .val (.int .i64)], .dr 102 4 [0, 149, 0, 0], .row 149 (.user 1)], [], fun x => qbm BIG x.1.1 x.1.2.1 x.1.2.2.1 x.1.2.2.2.1 x.1.2.2.2.2.1 x.1.2.2.2.2.2.1 x.1.2.2.2.2.2.2.1 x.2.1.1 x.2.1.2.2.1 x.2.1.2.2.2.1⟩
theorem qbm_ok : GOk TT prog 124 qbm_sp := gOk_of (C := qbm_C) (cuts := qbm_cuts) (by kernel_rfl) qbm_env func124 (show f124.body = some (bodyOf f124) by kernel_rfl) (by kernel_rfl) (by kernel_rfl) (by kernel_rfl) fun x y h => ⟨BIG, h⟩
def qbo_C : Ctx TT := ⟨tyOf, [(125, qe_sp.toKeep (noCall TT)), (128, qca_sp.toCall), (119, qbl_sp.toCall (noCall TT)), (124, qbm_sp.toCall (noCall TT))], 3, [(4, 1), (6, 1)], layOf, drOf, pmOf⟩
theorem qbo_env : EnvOk TT prog qbo_C.E := envG (gKeep_ok qe_ok qe_stays (noCall_ok 125)) (envG (fnCall_ok qca_ok) (envG (pCall_ok qbl_ok (noCall_ok 119)) (envG (gCall_ok qbm_ok (noCall_ok 124)) (envNil))))
def qbo_cuts : List (Pos × Cut) := [([true, true], ⟨[0, 3, 4], [], false, [], 0, false⟩)]
def qbo (n : Nat) (x0 : List Ins) (x1 : List Place) (x2 : Int) (x3 : Bool) (x4 : List Known) (x5 : List Bool) (x6 : Int) (x7 : Ins) : Option (((List Ins × Unit × Int × Bool × Unit × List Bool × Int × Unit) × List Place × List Known × Unit) × ((Unit) ⊕ (Int × Unit))) := topP TT prog qbo_C qbo_cuts f75 (bodyOf f75) ⟨[], [], [], [], []⟩ [.ptr 0 104 [.val (.list (.user 2)), .dr 102 4 [0, 149, 0, 0], .val (.int .i64), .val (.bool), .row 149 (.user 1), .val (.list (.bool)), .val (.int .i64)], .val (.user 2)] [.blk 104 [.val (.list (.user 2)), .own 1, .val (.int .i64), .val (.bool), .own 2, .val (.list (.bool)), .val (.int .i64)], .dr 102 4 [0, 149, 0, 0], .row 149 (.user 1)] [] (.ifc 34 (.val (.int .i64))) n ((x0, x1, x2, x3, x4, x5, x6, ()), x7, ())
def qbo_sp : PSpec TT := ⟨[.ptr 0 104 [.val (.list (.user 2)), .dr 102 4 [0, 149, 0, 0], .val (.int .i64), .val (.bool), .row 149 (.user 1), .val (.list (.bool)), .val (.int .i64)], .val (.user 2)], [.blk 104 [.val (.list (.user 2)), .own 1, .val (.int .i64), .val (.bool), .own 2, .val (.list (.bool)), .val (.int .i64)], .dr 102 4 [0, 149, 0, 0], .row 149 (.user 1)], [], .ifc 34 (.val (.int .i64)), fun x => qbo BIG x.1.1 x.1.2.1 x.1.2.2.1 x.1.2.2.2.1 x.1.2.2.2.2.1 x.1.2.2.2.2.2.1 x.1.2.2.2.2.2.2.1 x.2.1⟩
theorem qbo_ok : POk TT prog 75 qbo_sp := pOk_of (C := qbo_C) (cuts := qbo_cuts) (by kernel_rfl) qbo_env func75 (show f75.body = some (bodyOf f75) by kernel_rfl) (by kernel_rfl) (by kernel_rfl) (by kernel_rfl) fun x y h => ⟨BIG, h⟩
def qdd_C : Ctx TT := ⟨tyOf, [], 6, [], layOf, drOf, pmOf⟩
theorem qdd_env : EnvOk TT prog qdd_C.E := envNil
def qdd (x0 : List Ins) (x1 : List Place) (x2 : Int) (x3 : Bool) (x4 : List Known) (x5 : List Bool) (x6 x7 x8 : Int) : Option ((Unit × Unit) × (List Ins × Unit × Int × Bool × Unit × List Bool × Int × Unit) × List Place × List Known × (Unit × Unit) × (Int × Int × Unit) × Unit) := topDf prog qdd_C f43 (bodyOf f43) [.ptr 0 98 [.ptr 0 104 [.val (.list (.user 2)), .row 102 (.user 4), .val (.int .i64), .val (.bool), .row 149 (.user 1), .val (.list (.bool)), .val (.int .i64)]], .ptr 0 80 [.own 2], .ptr 0 36 [.val (.int .i64), .val (.int .i64)]] (.rw 1) [.blk 98 [.at_ 1 0], .blk 104 [.val (.list (.user 2)), .own 2, .val (.int .i64), .val (.bool), .own 3, .val (.list (.bool)), .val (.int .i64)], .row 102 (.user 4), .row 149 (.user 1), .blk 80 [.own 2], .blk 36 [.val (.int .i64), .val (.int .i64)]] (((x0, x1, x2, x3, x4, x5, x6, ()), ()), ((), ()), (x7, x8, ()), (), ())
def qdd_dsp : DSpec TT := ⟨[.ptr 0 98 [.ptr 0 104 [.val (.list (.user 2)), .row 102 (.user 4), .val (.int .i64), .val (.bool), .row 149 (.user 1), .val (.list (.bool)), .val (.int .i64)]], .ptr 0 80 [.own 2], .ptr 0 36 [.val (.int .i64), .val (.int .i64)]], .rw 1, [.blk 98 [.at_ 1 0], .blk 104 [.val (.list (.user 2)), .own 2, .val (.int .i64), .val (.bool), .own 3, .val (.list (.bool)), .val (.int .i64)], .row 102 (.user 4), .row 149 (.user 1), .blk 80 [.own 2], .blk 36 [.val (.int .i64), .val (.int .i64)]], fun x => qdd x.1.1.1 x.1.1.2.1 x.1.1.2.2.1 x.1.1.2.2.2.1 x.1.1.2.2.2.2.1 x.1.1.2.2.2.2.2.1 x.1.1.2.2.2.2.2.2.1 x.2.2.1.1 x.2.2.1.2.1⟩
theorem qdd_dok : DOk TT prog 43 qdd_dsp := dOk_of (C := qdd_C) (by kernel_rfl) qdd_env func43 (show f43.body = some (bodyOf f43) by kernel_rfl) (by kernel_rfl) (by kernel_rfl) (by kernel_rfl) (by kernel_rfl) fun x y h => h
def qr_C : Ctx TT := ⟨tyOf, [(42, qck_sp.toCall), (44, qbe_sp.toCall (noCall TT)), (45, qai_sp.toCall (noCall TT)), (46, (CallSpec.forkS [.val (.int .u8)] (fun x => check_does_g1_c0 x.1) (qbf_sp.toCall (noCall TT)) (CallSpec.forkS [.val (.int .u8)] (fun x => check_does_g1_c1 x.1) (qbg_sp.toCall (noCall TT)) (CallSpec.forkS [.val (.int .u8)] (fun x => check_does_g1_c2 x.1) (qbh_sp.toCall (noCall TT)) (CallSpec.forkS [.val (.int .u8)] (fun x => check_does_g1_c3 x.1) (qbi_sp.toCall (noCall TT)) (CallSpec.forkS [.val (.int .u8)] (fun x => check_does_g1_c4 x.1) (qbj_sp.toCall (noCall TT)) (qbk_sp.toCall (noCall TT)))))))), (74, qbn_sp.toCall (noCall TT)), (75, qbo_sp.toCall (noCall TT))], 0, [(3, 1), (6, 1), (9, 1), (10, 1), (11, 1)], layOf, drOf, pmOf⟩
theorem qr_env : EnvOk TT prog qr_C.E := envG (fnCall_ok qck_ok) (envG (gCall_ok qbe_ok (noCall_ok 44)) (envG (gCall_ok qai_ok (noCall_ok 45)) (envG (forkSCall_ok _ _ (gCall_ok qbf_ok (noCall_ok 46)) (forkSCall_ok _ _ (gCall_ok qbg_ok (noCall_ok 46)) (forkSCall_ok _ _ (gCall_ok qbh_ok (noCall_ok 46)) (forkSCall_ok _ _ (gCall_ok qbi_ok (noCall_ok 46)) (forkSCall_ok _ _ (gCall_ok qbj_ok (noCall_ok 46)) (gCall_ok qbk_ok (noCall_ok 46))))))) (envG (pCall_ok qbn_ok (noCall_ok 74)) (envG (pCall_ok qbo_ok (noCall_ok 75)) (envNil))))))
def qr_cuts : List (Pos × Cut) := [([false, false, true], ⟨[0, 2, 3, 5], [], false, [(1, 0, 102, .nl (.user 4)), (3, 4, 149, .user 1), (3, 5, 4, .bool)], 1, false⟩), ([true, false, false, false, true], ⟨[0, 2, 3, 5], [], false, [], 1, false⟩), ([true], ⟨[], [], false, [], 2, true⟩), ([false, true, false, false, true, false, false, false, true], ⟨[], [], false, [], 1, true⟩)]
def qr_D : DefP TT := ⟨3, 18, [18, 0, 2, 3, 5], 3, 43, [(0, 0), (1, 0), (2, 0)], qdd_dsp, qdc_dsp⟩
def qr (n : Nat) (x0 : List Ins) : Option ((Unit) × (List Place × Fault × Unit)) := topD prog qr_C qr_cuts f30 (bodyOf f30) ⟨[(0, 102, .user 4, true)], [], [], [], []⟩ [.val (.list (.user 2))] [] [.row 102 (.user 4), .val (.user 3)] qr_D n (x0, ())
def qr_sp : GSpec TT := ⟨[.val (.list (.user 2))], [], [.row 102 (.user 4), .val (.user 3)], fun x => qr BIG x.1⟩
theorem qr_ok : GOk TT prog 30 qr_sp := gOkD_of (C := qr_C) (cuts := qr_cuts) (D := qr_D) (by kernel_rfl) qr_env func30 (show f30.body = some (bodyOf f30) by kernel_rfl) (by kernel_rfl) (by kernel_rfl) (by kernel_rfl) qdd_dok qdc_dok fun x y h => ⟨BIG, h⟩
def qi_C : Ctx TT := ⟨tyOf, [(30, qr_sp.toCall (noCall TT))], 0, [], layOf, drOf, pmOf⟩
theorem qi_env : EnvOk TT prog qi_C.E := envG (gCall_ok qr_ok (noCall_ok 30)) (envNil)
def qi_cuts : List (Pos × Cut) := []
def qi (n : Nat) (x0 : List Ins) : Option (Fault) := topF TT prog qi_C qi_cuts f14 (bodyOf f14) ⟨[], []⟩ [.val (.list (.user 2))] [.val (.user 3)] n x0
def qi_sp : FnSpec TT := ⟨[.val (.list (.user 2))], [.val (.user 3)], fun x => qi BIG x⟩
theorem qi_ok : FnOk TT prog 14 qi_sp := fnOk_of (C := qi_C) (by kernel_rfl) qi_env func14 (show f14.body = some (bodyOf f14) by kernel_rfl) (by kernel_rfl) (by kernel_rfl) (cuts := qi_cuts) fun x y h => ⟨BIG, h⟩
end
end Go.X
