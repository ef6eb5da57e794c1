import Derived.Test.YtjiagljaipadmaaProg
import Derived.Test.YtjiagljaipadmaaSp
namespace Go.V
open Go.RowKit Go.Proofs
def alu_is_u32 (a0 : Int) (a1 : Int) (a2 : Int)  : (Bool × Int) := (if (a0 == (17 : Int)) then ((a1 == a2), (0 : Int)) else (if (a0 == (18 : Int)) then ((a1 != a2), (0 : Int)) else (if (a0 == (19 : Int)) then (decide (a1 > a2), (0 : Int)) else (if (a0 == (20 : Int)) then (decide (a1 ≥ a2), (0 : Int)) else (if (a0 == (21 : Int)) then (decide (a1 < a2), (0 : Int)) else (if (a0 == (22 : Int)) then (decide (a1 ≤ a2), (0 : Int)) else (if (a0 == (23 : Int)) then (decide ((IntKind.i32.wrap a1) > (IntKind.i32.wrap a2)), (0 : Int)) else (if (a0 == (24 : Int)) then (decide ((IntKind.i32.wrap a1) ≥ (IntKind.i32.wrap a2)), (0 : Int)) else (if (a0 == (25 : Int)) then (decide ((IntKind.i32.wrap a1) < (IntKind.i32.wrap a2)), (0 : Int)) else (if (a0 == (26 : Int)) then (decide ((IntKind.i32.wrap a1) ≤ (IntKind.i32.wrap a2)), (0 : Int)) else (if (a0 == (27 : Int)) then (((bAnd .u32 a1 a2) != (0 : Int)), (0 : Int)) else (false, (2 : Int)))))))))))))

theorem alu_is_u32_ok (a0 : Int) (a1 : Int) (a2 : Int)  (_h_a0 : IU8 a0) (_h_a1 : IU32 a1) (_h_a2 : IU32 a2)  : II64 (alu_is_u32 a0 a1 a2).2 := by
 rw [alu_is_u32.eq_1]
 refine iteR (p := fun r : (Bool × Int) => II64 r.2) (fun hi1001 => ?_) (fun hi1001 => ?_)
 ·
  replace hi1001 : a0 = (17 : Int) := (bEqT hi1001)
  exact (by exact (show II64 (0 : Int) from (by omega)))
 replace hi1001 : a0 ≠ (17 : Int) := (bEqF hi1001)
 refine iteR (p := fun r : (Bool × Int) => II64 r.2) (fun hi1002 => ?_) (fun hi1002 => ?_)
 ·
  replace hi1002 : a0 = (18 : Int) := (bEqT hi1002)
  exact (by exact (show II64 (0 : Int) from (by omega)))
 replace hi1002 : a0 ≠ (18 : Int) := (bEqF hi1002)
 refine iteR (p := fun r : (Bool × Int) => II64 r.2) (fun hi1003 => ?_) (fun hi1003 => ?_)
 ·
  replace hi1003 : a0 = (19 : Int) := (bEqT hi1003)
  exact (by exact (show II64 (0 : Int) from (by omega)))
 replace hi1003 : a0 ≠ (19 : Int) := (bEqF hi1003)
 refine iteR (p := fun r : (Bool × Int) => II64 r.2) (fun hi1004 => ?_) (fun hi1004 => ?_)
 ·
  replace hi1004 : a0 = (20 : Int) := (bEqT hi1004)
  exact (by exact (show II64 (0 : Int) from (by omega)))
 replace hi1004 : a0 ≠ (20 : Int) := (bEqF hi1004)
 refine iteR (p := fun r : (Bool × Int) => II64 r.2) (fun hi1005 => ?_) (fun hi1005 => ?_)
 ·
  replace hi1005 : a0 = (21 : Int) := (bEqT hi1005)
  exact (by exact (show II64 (0 : Int) from (by omega)))
 replace hi1005 : a0 ≠ (21 : Int) := (bEqF hi1005)
 refine iteR (p := fun r : (Bool × Int) => II64 r.2) (fun hi1006 => ?_) (fun hi1006 => ?_)
 ·
  replace hi1006 : a0 = (22 : Int) := (bEqT hi1006)
  exact (by exact (show II64 (0 : Int) from (by omega)))
 replace hi1006 : a0 ≠ (22 : Int) := (bEqF hi1006)
 refine iteR (p := fun r : (Bool × Int) => II64 r.2) (fun hi1007 => ?_) (fun hi1007 => ?_)
 ·
  replace hi1007 : a0 = (23 : Int) := (bEqT hi1007)
  exact (by exact (show II64 (0 : Int) from (by omega)))
 replace hi1007 : a0 ≠ (23 : Int) := (bEqF hi1007)
 refine iteR (p := fun r : (Bool × Int) => II64 r.2) (fun hi1008 => ?_) (fun hi1008 => ?_)
 ·
  replace hi1008 : a0 = (24 : Int) := (bEqT hi1008)
  exact (by exact (show II64 (0 : Int) from (by omega)))
 replace hi1008 : a0 ≠ (24 : Int) := (bEqF hi1008)
 refine iteR (p := fun r : (Bool × Int) => II64 r.2) (fun hi1009 => ?_) (fun hi1009 => ?_)
 ·
  replace hi1009 : a0 = (25 : Int) := (bEqT hi1009)
  exact (by exact (show II64 (0 : Int) from (by omega)))
 replace hi1009 : a0 ≠ (25 : Int) := (bEqF hi1009)
 refine iteR (p := fun r : (Bool × Int) => II64 r.2) (fun hi1010 => ?_) (fun hi1010 => ?_)
 ·
  replace hi1010 : a0 = (26 : Int) := (bEqT hi1010)
  exact (by exact (show II64 (0 : Int) from (by omega)))
 replace hi1010 : a0 ≠ (26 : Int) := (bEqF hi1010)
 refine iteR (p := fun r : (Bool × Int) => II64 r.2) (fun hi1011 => ?_) (fun hi1011 => ?_)
 ·
  replace hi1011 : a0 = (27 : Int) := (bEqT hi1011)
  exact (by exact (show II64 (0 : Int) from (by omega)))
 replace hi1011 : a0 ≠ (27 : Int) := (bEqF hi1011)
 exact (by exact (show II64 (2 : Int) from (by omega)))

set_option maxRecDepth 100000 in
set_option maxHeartbeats 4000000 in
theorem alu_is_u32_any (a0 : Int) (a1 : Int) (a2 : Int)   (w : World)  (_h_a0 : IU8 a0) (_h_a1 : IU32 a1) (_h_a2 : IU32 a2)  : Calls Try.prog 61 #[.int .u8 a0, .int .u32 a1, .int .u32 a2] w (RetV w (.tuple #[.bool (alu_is_u32 a0 a1 a2).1, .int .i64 (alu_is_u32 a0 a1 a2).2])) := by
 have hs := alu_is_u32.eq_1 a0 a1 a2
 refine calls_of_CW Try.func61 rfl (n := 73) Try.ntmps61 (by kernel_rfl) [0, 1, 2] (F := [(0, .int .u8 a0), (1, .int .u32 a1), (2, .int .u32 a2)]) (by kernel_rfl) ?_
 refine CW.seq fun K1 hK1 => ?_
 refine CW.region ?_
 refine WR.batch 2 [(0, .int .u8 a0), (1, .int .u32 a1), (2, .int .u32 a2)] (by kernel_rfl) ?_
 refine WR.fin (by kernel_rfl) ?_
 refine go hK1 ?_
 refine CW.seq fun K2 hK2 => ?_
 refine CW.seq fun K3 hK3 => ?_
 refine CW.region ?_
 refine WR.batch 1 [(1, .int .u32 a1), (2, .int .u32 a2), (8, .int .u8 a0)] (by kernel_rfl) ?_
 refine WR.fin (by kernel_rfl) ?_
 refine go hK3 ?_
 refine CW.block ?_
 refine CW.seq fun K4 hK4 => ?_
 refine CW.region ?_
 refine WR.batch 2 [(1, .int .u32 a1), (2, .int .u32 a2), (8, .int .u8 a0), (9, .bool (a0 == (17 : Int)))] (by kernel_rfl) ?_
 refine WR.fin (by kernel_rfl) ?_
 refine go hK4 ?_
 refine CW.cond ((a0 == (17 : Int))) (by kernel_rfl) (fun ht5 => ?_) (fun ht5 => ?_)
 ·
  have hs6 := ifT ht5 hs
  replace ht5 : a0 = (17 : Int) := (bEqT ht5)
  refine CW.seq fun K7 hK7 => ?_
  refine CW.region ?_
  refine WR.batch 5 [(6, .bool (a1 == a2)), (7, .int .i64 0)] (by kernel_rfl) ?_
  refine WR.fin (by kernel_rfl) ?_
  refine go hK7 ?_
  refine CW.ret ?_
  exact retV (.tuple #[.bool (a1 == a2), .int .i64 0]) (by kernel_rfl) (⟨(Chg.refl _ _), (congrArg (fun r : (Bool × Int) => (.tuple #[.bool r.1, .int .i64 r.2] : Value)) hs6).symm⟩)
 have hs8 := ifF ht5 hs
 replace ht5 : a0 ≠ (17 : Int) := (bEqF ht5)
 refine CW.seq fun K9 hK9 => ?_
 refine CW.region ?_
 refine WR.batch 2 [(1, .int .u32 a1), (2, .int .u32 a2), (8, .int .u8 a0), (14, .bool (a0 == (18 : Int)))] (by kernel_rfl) ?_
 refine WR.fin (by kernel_rfl) ?_
 refine go hK9 ?_
 refine CW.cond ((a0 == (18 : Int))) (by kernel_rfl) (fun ht10 => ?_) (fun ht10 => ?_)
 ·
  have hs11 := ifT ht10 hs8
  replace ht10 : a0 = (18 : Int) := (bEqT ht10)
  refine CW.seq fun K12 hK12 => ?_
  refine CW.region ?_
  refine WR.batch 5 [(6, .bool (a1 != a2)), (7, .int .i64 0)] (by kernel_rfl) ?_
  refine WR.fin (by kernel_rfl) ?_
  refine go hK12 ?_
  refine CW.ret ?_
  exact retV (.tuple #[.bool (a1 != a2), .int .i64 0]) (by kernel_rfl) (⟨(Chg.refl _ _), (congrArg (fun r : (Bool × Int) => (.tuple #[.bool r.1, .int .i64 r.2] : Value)) hs11).symm⟩)
 have hs13 := ifF ht10 hs8
 replace ht10 : a0 ≠ (18 : Int) := (bEqF ht10)
 refine CW.seq fun K14 hK14 => ?_
 refine CW.region ?_
 refine WR.batch 2 [(1, .int .u32 a1), (2, .int .u32 a2), (8, .int .u8 a0), (19, .bool (a0 == (19 : Int)))] (by kernel_rfl) ?_
 refine WR.fin (by kernel_rfl) ?_
 refine go hK14 ?_
 refine CW.cond ((a0 == (19 : Int))) (by kernel_rfl) (fun ht15 => ?_) (fun ht15 => ?_)
 ·
  have hs16 := ifT ht15 hs13
  replace ht15 : a0 = (19 : Int) := (bEqT ht15)
  refine CW.seq fun K17 hK17 => ?_
  refine CW.region ?_
  refine WR.batch 5 [(6, .bool (decide (a1 > a2))), (7, .int .i64 0)] (by kernel_rfl) ?_
  refine WR.fin (by kernel_rfl) ?_
  refine go hK17 ?_
  refine CW.ret ?_
  exact retV (.tuple #[.bool (decide (a1 > a2)), .int .i64 0]) (by kernel_rfl) (⟨(Chg.refl _ _), (congrArg (fun r : (Bool × Int) => (.tuple #[.bool r.1, .int .i64 r.2] : Value)) hs16).symm⟩)
 have hs18 := ifF ht15 hs13
 replace ht15 : a0 ≠ (19 : Int) := (bEqF ht15)
 refine CW.seq fun K19 hK19 => ?_
 refine CW.region ?_
 refine WR.batch 2 [(1, .int .u32 a1), (2, .int .u32 a2), (8, .int .u8 a0), (24, .bool (a0 == (20 : Int)))] (by kernel_rfl) ?_
 refine WR.fin (by kernel_rfl) ?_
 refine go hK19 ?_
 refine CW.cond ((a0 == (20 : Int))) (by kernel_rfl) (fun ht20 => ?_) (fun ht20 => ?_)
 ·
  have hs21 := ifT ht20 hs18
  replace ht20 : a0 = (20 : Int) := (bEqT ht20)
  refine CW.seq fun K22 hK22 => ?_
  refine CW.region ?_
  refine WR.batch 5 [(6, .bool (decide (a1 ≥ a2))), (7, .int .i64 0)] (by kernel_rfl) ?_
  refine WR.fin (by kernel_rfl) ?_
  refine go hK22 ?_
  refine CW.ret ?_
  exact retV (.tuple #[.bool (decide (a1 ≥ a2)), .int .i64 0]) (by kernel_rfl) (⟨(Chg.refl _ _), (congrArg (fun r : (Bool × Int) => (.tuple #[.bool r.1, .int .i64 r.2] : Value)) hs21).symm⟩)
 have hs23 := ifF ht20 hs18
 replace ht20 : a0 ≠ (20 : Int) := (bEqF ht20)
 refine CW.seq fun K24 hK24 => ?_
 refine CW.region ?_
 refine WR.batch 2 [(1, .int .u32 a1), (2, .int .u32 a2), (8, .int .u8 a0), (29, .bool (a0 == (21 : Int)))] (by kernel_rfl) ?_
 refine WR.fin (by kernel_rfl) ?_
 refine go hK24 ?_
 refine CW.cond ((a0 == (21 : Int))) (by kernel_rfl) (fun ht25 => ?_) (fun ht25 => ?_)
 ·
  have hs26 := ifT ht25 hs23
  replace ht25 : a0 = (21 : Int) := (bEqT ht25)
  refine CW.seq fun K27 hK27 => ?_
  refine CW.region ?_
  refine WR.batch 5 [(6, .bool (decide (a1 < a2))), (7, .int .i64 0)] (by kernel_rfl) ?_
  refine WR.fin (by kernel_rfl) ?_
  refine go hK27 ?_
  refine CW.ret ?_
  exact retV (.tuple #[.bool (decide (a1 < a2)), .int .i64 0]) (by kernel_rfl) (⟨(Chg.refl _ _), (congrArg (fun r : (Bool × Int) => (.tuple #[.bool r.1, .int .i64 r.2] : Value)) hs26).symm⟩)
 have hs28 := ifF ht25 hs23
 replace ht25 : a0 ≠ (21 : Int) := (bEqF ht25)
 refine CW.seq fun K29 hK29 => ?_
 refine CW.region ?_
 refine WR.batch 2 [(1, .int .u32 a1), (2, .int .u32 a2), (8, .int .u8 a0), (34, .bool (a0 == (22 : Int)))] (by kernel_rfl) ?_
 refine WR.fin (by kernel_rfl) ?_
 refine go hK29 ?_
 refine CW.cond ((a0 == (22 : Int))) (by kernel_rfl) (fun ht30 => ?_) (fun ht30 => ?_)
 ·
  have hs31 := ifT ht30 hs28
  replace ht30 : a0 = (22 : Int) := (bEqT ht30)
  refine CW.seq fun K32 hK32 => ?_
  refine CW.region ?_
  refine WR.batch 5 [(6, .bool (decide (a1 ≤ a2))), (7, .int .i64 0)] (by kernel_rfl) ?_
  refine WR.fin (by kernel_rfl) ?_
  refine go hK32 ?_
  refine CW.ret ?_
  exact retV (.tuple #[.bool (decide (a1 ≤ a2)), .int .i64 0]) (by kernel_rfl) (⟨(Chg.refl _ _), (congrArg (fun r : (Bool × Int) => (.tuple #[.bool r.1, .int .i64 r.2] : Value)) hs31).symm⟩)
 have hs33 := ifF ht30 hs28
 replace ht30 : a0 ≠ (22 : Int) := (bEqF ht30)
 refine CW.seq fun K34 hK34 => ?_
 refine CW.region ?_
 refine WR.batch 2 [(1, .int .u32 a1), (2, .int .u32 a2), (8, .int .u8 a0), (39, .bool (a0 == (23 : Int)))] (by kernel_rfl) ?_
 refine WR.fin (by kernel_rfl) ?_
 refine go hK34 ?_
 refine CW.cond ((a0 == (23 : Int))) (by kernel_rfl) (fun ht35 => ?_) (fun ht35 => ?_)
 ·
  have hs36 := ifT ht35 hs33
  replace ht35 : a0 = (23 : Int) := (bEqT ht35)
  refine CW.seq fun K37 hK37 => ?_
  refine CW.region ?_
  refine WR.batch 7 [(6, .bool (decide ((IntKind.i32.wrap a1) > (IntKind.i32.wrap a2)))), (7, .int .i64 0)] (by kernel_rfl) ?_
  refine WR.fin (by kernel_rfl) ?_
  refine go hK37 ?_
  refine CW.ret ?_
  exact retV (.tuple #[.bool (decide ((IntKind.i32.wrap a1) > (IntKind.i32.wrap a2))), .int .i64 0]) (by kernel_rfl) (⟨(Chg.refl _ _), (congrArg (fun r : (Bool × Int) => (.tuple #[.bool r.1, .int .i64 r.2] : Value)) hs36).symm⟩)
 have hs38 := ifF ht35 hs33
 replace ht35 : a0 ≠ (23 : Int) := (bEqF ht35)
 refine CW.seq fun K39 hK39 => ?_
 refine CW.region ?_
 refine WR.batch 2 [(1, .int .u32 a1), (2, .int .u32 a2), (8, .int .u8 a0), (46, .bool (a0 == (24 : Int)))] (by kernel_rfl) ?_
 refine WR.fin (by kernel_rfl) ?_
 refine go hK39 ?_
 refine CW.cond ((a0 == (24 : Int))) (by kernel_rfl) (fun ht40 => ?_) (fun ht40 => ?_)
 ·
  have hs41 := ifT ht40 hs38
  replace ht40 : a0 = (24 : Int) := (bEqT ht40)
  refine CW.seq fun K42 hK42 => ?_
  refine CW.region ?_
  refine WR.batch 7 [(6, .bool (decide ((IntKind.i32.wrap a1) ≥ (IntKind.i32.wrap a2)))), (7, .int .i64 0)] (by kernel_rfl) ?_
  refine WR.fin (by kernel_rfl) ?_
  refine go hK42 ?_
  refine CW.ret ?_
  exact retV (.tuple #[.bool (decide ((IntKind.i32.wrap a1) ≥ (IntKind.i32.wrap a2))), .int .i64 0]) (by kernel_rfl) (⟨(Chg.refl _ _), (congrArg (fun r : (Bool × Int) => (.tuple #[.bool r.1, .int .i64 r.2] : Value)) hs41).symm⟩)
 have hs43 := ifF ht40 hs38
 replace ht40 : a0 ≠ (24 : Int) := (bEqF ht40)
 refine CW.seq fun K44 hK44 => ?_
 refine CW.region ?_
 refine WR.batch 2 [(1, .int .u32 a1), (2, .int .u32 a2), (8, .int .u8 a0), (53, .bool (a0 == (25 : Int)))] (by kernel_rfl) ?_
 refine WR.fin (by kernel_rfl) ?_
 refine go hK44 ?_
 refine CW.cond ((a0 == (25 : Int))) (by kernel_rfl) (fun ht45 => ?_) (fun ht45 => ?_)
 ·
  have hs46 := ifT ht45 hs43
  replace ht45 : a0 = (25 : Int) := (bEqT ht45)
  refine CW.seq fun K47 hK47 => ?_
  refine CW.region ?_
  refine WR.batch 7 [(6, .bool (decide ((IntKind.i32.wrap a1) < (IntKind.i32.wrap a2)))), (7, .int .i64 0)] (by kernel_rfl) ?_
  refine WR.fin (by kernel_rfl) ?_
  refine go hK47 ?_
  refine CW.ret ?_
  exact retV (.tuple #[.bool (decide ((IntKind.i32.wrap a1) < (IntKind.i32.wrap a2))), .int .i64 0]) (by kernel_rfl) (⟨(Chg.refl _ _), (congrArg (fun r : (Bool × Int) => (.tuple #[.bool r.1, .int .i64 r.2] : Value)) hs46).symm⟩)
 have hs48 := ifF ht45 hs43
 replace ht45 : a0 ≠ (25 : Int) := (bEqF ht45)
 refine CW.seq fun K49 hK49 => ?_
 refine CW.region ?_
 refine WR.batch 2 [(1, .int .u32 a1), (2, .int .u32 a2), (8, .int .u8 a0), (60, .bool (a0 == (26 : Int)))] (by kernel_rfl) ?_
 refine WR.fin (by kernel_rfl) ?_
 refine go hK49 ?_
 refine CW.cond ((a0 == (26 : Int))) (by kernel_rfl) (fun ht50 => ?_) (fun ht50 => ?_)
 ·
  have hs51 := ifT ht50 hs48
  replace ht50 : a0 = (26 : Int) := (bEqT ht50)
  refine CW.seq fun K52 hK52 => ?_
  refine CW.region ?_
  refine WR.batch 7 [(6, .bool (decide ((IntKind.i32.wrap a1) ≤ (IntKind.i32.wrap a2)))), (7, .int .i64 0)] (by kernel_rfl) ?_
  refine WR.fin (by kernel_rfl) ?_
  refine go hK52 ?_
  refine CW.ret ?_
  exact retV (.tuple #[.bool (decide ((IntKind.i32.wrap a1) ≤ (IntKind.i32.wrap a2))), .int .i64 0]) (by kernel_rfl) (⟨(Chg.refl _ _), (congrArg (fun r : (Bool × Int) => (.tuple #[.bool r.1, .int .i64 r.2] : Value)) hs51).symm⟩)
 have hs53 := ifF ht50 hs48
 replace ht50 : a0 ≠ (26 : Int) := (bEqF ht50)
 refine CW.seq fun K54 hK54 => ?_
 refine CW.region ?_
 refine WR.batch 2 [(1, .int .u32 a1), (2, .int .u32 a2), (67, .bool (a0 == (27 : Int)))] (by kernel_rfl) ?_
 refine WR.fin (by kernel_rfl) ?_
 refine go hK54 ?_
 refine CW.cond ((a0 == (27 : Int))) (by kernel_rfl) (fun ht55 => ?_) (fun ht55 => ?_)
 ·
  have hs56 := ifT ht55 hs53
  replace ht55 : a0 = (27 : Int) := (bEqT ht55)
  refine CW.seq fun K57 hK57 => ?_
  refine CW.region ?_
  refine WR.batch 6 [(6, .bool ((bAnd .u32 a1 a2) != (0 : Int))), (7, .int .i64 0)] (by kernel_rfl) ?_
  refine WR.fin (by kernel_rfl) ?_
  refine go hK57 ?_
  refine CW.ret ?_
  exact retV (.tuple #[.bool ((bAnd .u32 a1 a2) != (0 : Int)), .int .i64 0]) (by kernel_rfl) (⟨(Chg.refl _ _), (congrArg (fun r : (Bool × Int) => (.tuple #[.bool r.1, .int .i64 r.2] : Value)) hs56).symm⟩)
 have hs58 := ifF ht55 hs53
 replace ht55 : a0 ≠ (27 : Int) := (bEqF ht55)
 refine CW.skip ?_
 refine go hK2 ?_
 refine CW.seq fun K59 hK59 => ?_
 refine CW.region ?_
 refine WR.batch 2 [(6, .bool false), (7, .int .i64 2)] (by kernel_rfl) ?_
 refine WR.fin (by kernel_rfl) ?_
 refine go hK59 ?_
 refine CW.ret ?_
 exact retV (.tuple #[.bool false, .int .i64 2]) (by kernel_rfl) (⟨(Chg.refl _ _), (congrArg (fun r : (Bool × Int) => (.tuple #[.bool r.1, .int .i64 r.2] : Value)) hs58).symm⟩)

def alu_is_u64 (a0 : Int) (a1 : Int) (a2 : Int)  : (Bool × Int) := (if (a0 == (17 : Int)) then ((a1 == a2), (0 : Int)) else (if (a0 == (18 : Int)) then ((a1 != a2), (0 : Int)) else (if (a0 == (19 : Int)) then (decide (a1 > a2), (0 : Int)) else (if (a0 == (20 : Int)) then (decide (a1 ≥ a2), (0 : Int)) else (if (a0 == (21 : Int)) then (decide (a1 < a2), (0 : Int)) else (if (a0 == (22 : Int)) then (decide (a1 ≤ a2), (0 : Int)) else (if (a0 == (23 : Int)) then (decide ((IntKind.i64.wrap a1) > (IntKind.i64.wrap a2)), (0 : Int)) else (if (a0 == (24 : Int)) then (decide ((IntKind.i64.wrap a1) ≥ (IntKind.i64.wrap a2)), (0 : Int)) else (if (a0 == (25 : Int)) then (decide ((IntKind.i64.wrap a1) < (IntKind.i64.wrap a2)), (0 : Int)) else (if (a0 == (26 : Int)) then (decide ((IntKind.i64.wrap a1) ≤ (IntKind.i64.wrap a2)), (0 : Int)) else (if (a0 == (27 : Int)) then (((bAnd .u64 a1 a2) != (0 : Int)), (0 : Int)) else (false, (2 : Int)))))))))))))

theorem alu_is_u64_ok (a0 : Int) (a1 : Int) (a2 : Int)  (_h_a0 : IU8 a0) (_h_a1 : IU64 a1) (_h_a2 : IU64 a2)  : II64 (alu_is_u64 a0 a1 a2).2 := by
 rw [alu_is_u64.eq_1]
 refine iteR (p := fun r : (Bool × Int) => II64 r.2) (fun hi1001 => ?_) (fun hi1001 => ?_)
 ·
  replace hi1001 : a0 = (17 : Int) := (bEqT hi1001)
  exact (by exact (show II64 (0 : Int) from (by omega)))
 replace hi1001 : a0 ≠ (17 : Int) := (bEqF hi1001)
 refine iteR (p := fun r : (Bool × Int) => II64 r.2) (fun hi1002 => ?_) (fun hi1002 => ?_)
 ·
  replace hi1002 : a0 = (18 : Int) := (bEqT hi1002)
  exact (by exact (show II64 (0 : Int) from (by omega)))
 replace hi1002 : a0 ≠ (18 : Int) := (bEqF hi1002)
 refine iteR (p := fun r : (Bool × Int) => II64 r.2) (fun hi1003 => ?_) (fun hi1003 => ?_)
 ·
  replace hi1003 : a0 = (19 : Int) := (bEqT hi1003)
  exact (by exact (show II64 (0 : Int) from (by omega)))
 replace hi1003 : a0 ≠ (19 : Int) := (bEqF hi1003)
 refine iteR (p := fun r : (Bool × Int) => II64 r.2) (fun hi1004 => ?_) (fun hi1004 => ?_)
 ·
  replace hi1004 : a0 = (20 : Int) := (bEqT hi1004)
  exact (by exact (show II64 (0 : Int) from (by omega)))
 replace hi1004 : a0 ≠ (20 : Int) := (bEqF hi1004)
 refine iteR (p := fun r : (Bool × Int) => II64 r.2) (fun hi1005 => ?_) (fun hi1005 => ?_)
 ·
  replace hi1005 : a0 = (21 : Int) := (bEqT hi1005)
  exact (by exact (show II64 (0 : Int) from (by omega)))
 replace hi1005 : a0 ≠ (21 : Int) := (bEqF hi1005)
 refine iteR (p := fun r : (Bool × Int) => II64 r.2) (fun hi1006 => ?_) (fun hi1006 => ?_)
 ·
  replace hi1006 : a0 = (22 : Int) := (bEqT hi1006)
  exact (by exact (show II64 (0 : Int) from (by omega)))
 replace hi1006 : a0 ≠ (22 : Int) := (bEqF hi1006)
 refine iteR (p := fun r : (Bool × Int) => II64 r.2) (fun hi1007 => ?_) (fun hi1007 => ?_)
 ·
  replace hi1007 : a0 = (23 : Int) := (bEqT hi1007)
  exact (by exact (show II64 (0 : Int) from (by omega)))
 replace hi1007 : a0 ≠ (23 : Int) := (bEqF hi1007)
 refine iteR (p := fun r : (Bool × Int) => II64 r.2) (fun hi1008 => ?_) (fun hi1008 => ?_)
 ·
  replace hi1008 : a0 = (24 : Int) := (bEqT hi1008)
  exact (by exact (show II64 (0 : Int) from (by omega)))
 replace hi1008 : a0 ≠ (24 : Int) := (bEqF hi1008)
 refine iteR (p := fun r : (Bool × Int) => II64 r.2) (fun hi1009 => ?_) (fun hi1009 => ?_)
 ·
  replace hi1009 : a0 = (25 : Int) := (bEqT hi1009)
  exact (by exact (show II64 (0 : Int) from (by omega)))
 replace hi1009 : a0 ≠ (25 : Int) := (bEqF hi1009)
 refine iteR (p := fun r : (Bool × Int) => II64 r.2) (fun hi1010 => ?_) (fun hi1010 => ?_)
 ·
  replace hi1010 : a0 = (26 : Int) := (bEqT hi1010)
  exact (by exact (show II64 (0 : Int) from (by omega)))
 replace hi1010 : a0 ≠ (26 : Int) := (bEqF hi1010)
 refine iteR (p := fun r : (Bool × Int) => II64 r.2) (fun hi1011 => ?_) (fun hi1011 => ?_)
 ·
  replace hi1011 : a0 = (27 : Int) := (bEqT hi1011)
  exact (by exact (show II64 (0 : Int) from (by omega)))
 replace hi1011 : a0 ≠ (27 : Int) := (bEqF hi1011)
 exact (by exact (show II64 (2 : Int) from (by omega)))

set_option maxRecDepth 100000 in
set_option maxHeartbeats 4000000 in
theorem alu_is_u64_any (a0 : Int) (a1 : Int) (a2 : Int)   (w : World)  (_h_a0 : IU8 a0) (_h_a1 : IU64 a1) (_h_a2 : IU64 a2)  : Calls Try.prog 62 #[.int .u8 a0, .int .u64 a1, .int .u64 a2] w (RetV w (.tuple #[.bool (alu_is_u64 a0 a1 a2).1, .int .i64 (alu_is_u64 a0 a1 a2).2])) := by
 have hs := alu_is_u64.eq_1 a0 a1 a2
 refine calls_of_CW Try.func62 rfl (n := 73) Try.ntmps62 (by kernel_rfl) [0, 1, 2] (F := [(0, .int .u8 a0), (1, .int .u64 a1), (2, .int .u64 a2)]) (by kernel_rfl) ?_
 refine CW.seq fun K1 hK1 => ?_
 refine CW.region ?_
 refine WR.batch 2 [(0, .int .u8 a0), (1, .int .u64 a1), (2, .int .u64 a2)] (by kernel_rfl) ?_
 refine WR.fin (by kernel_rfl) ?_
 refine go hK1 ?_
 refine CW.seq fun K2 hK2 => ?_
 refine CW.seq fun K3 hK3 => ?_
 refine CW.region ?_
 refine WR.batch 1 [(1, .int .u64 a1), (2, .int .u64 a2), (8, .int .u8 a0)] (by kernel_rfl) ?_
 refine WR.fin (by kernel_rfl) ?_
 refine go hK3 ?_
 refine CW.block ?_
 refine CW.seq fun K4 hK4 => ?_
 refine CW.region ?_
 refine WR.batch 2 [(1, .int .u64 a1), (2, .int .u64 a2), (8, .int .u8 a0), (9, .bool (a0 == (17 : Int)))] (by kernel_rfl) ?_
 refine WR.fin (by kernel_rfl) ?_
 refine go hK4 ?_
 refine CW.cond ((a0 == (17 : Int))) (by kernel_rfl) (fun ht5 => ?_) (fun ht5 => ?_)
 ·
  have hs6 := ifT ht5 hs
  replace ht5 : a0 = (17 : Int) := (bEqT ht5)
  refine CW.seq fun K7 hK7 => ?_
  refine CW.region ?_
  refine WR.batch 5 [(6, .bool (a1 == a2)), (7, .int .i64 0)] (by kernel_rfl) ?_
  refine WR.fin (by kernel_rfl) ?_
  refine go hK7 ?_
  refine CW.ret ?_
  exact retV (.tuple #[.bool (a1 == a2), .int .i64 0]) (by kernel_rfl) (⟨(Chg.refl _ _), (congrArg (fun r : (Bool × Int) => (.tuple #[.bool r.1, .int .i64 r.2] : Value)) hs6).symm⟩)
 have hs8 := ifF ht5 hs
 replace ht5 : a0 ≠ (17 : Int) := (bEqF ht5)
 refine CW.seq fun K9 hK9 => ?_
 refine CW.region ?_
 refine WR.batch 2 [(1, .int .u64 a1), (2, .int .u64 a2), (8, .int .u8 a0), (14, .bool (a0 == (18 : Int)))] (by kernel_rfl) ?_
 refine WR.fin (by kernel_rfl) ?_
 refine go hK9 ?_
 refine CW.cond ((a0 == (18 : Int))) (by kernel_rfl) (fun ht10 => ?_) (fun ht10 => ?_)
 ·
  have hs11 := ifT ht10 hs8
  replace ht10 : a0 = (18 : Int) := (bEqT ht10)
  refine CW.seq fun K12 hK12 => ?_
  refine CW.region ?_
  refine WR.batch 5 [(6, .bool (a1 != a2)), (7, .int .i64 0)] (by kernel_rfl) ?_
  refine WR.fin (by kernel_rfl) ?_
  refine go hK12 ?_
  refine CW.ret ?_
  exact retV (.tuple #[.bool (a1 != a2), .int .i64 0]) (by kernel_rfl) (⟨(Chg.refl _ _), (congrArg (fun r : (Bool × Int) => (.tuple #[.bool r.1, .int .i64 r.2] : Value)) hs11).symm⟩)
 have hs13 := ifF ht10 hs8
 replace ht10 : a0 ≠ (18 : Int) := (bEqF ht10)
 refine CW.seq fun K14 hK14 => ?_
 refine CW.region ?_
 refine WR.batch 2 [(1, .int .u64 a1), (2, .int .u64 a2), (8, .int .u8 a0), (19, .bool (a0 == (19 : Int)))] (by kernel_rfl) ?_
 refine WR.fin (by kernel_rfl) ?_
 refine go hK14 ?_
 refine CW.cond ((a0 == (19 : Int))) (by kernel_rfl) (fun ht15 => ?_) (fun ht15 => ?_)
 ·
  have hs16 := ifT ht15 hs13
  replace ht15 : a0 = (19 : Int) := (bEqT ht15)
  refine CW.seq fun K17 hK17 => ?_
  refine CW.region ?_
  refine WR.batch 5 [(6, .bool (decide (a1 > a2))), (7, .int .i64 0)] (by kernel_rfl) ?_
  refine WR.fin (by kernel_rfl) ?_
  refine go hK17 ?_
  refine CW.ret ?_
  exact retV (.tuple #[.bool (decide (a1 > a2)), .int .i64 0]) (by kernel_rfl) (⟨(Chg.refl _ _), (congrArg (fun r : (Bool × Int) => (.tuple #[.bool r.1, .int .i64 r.2] : Value)) hs16).symm⟩)
 have hs18 := ifF ht15 hs13
 replace ht15 : a0 ≠ (19 : Int) := (bEqF ht15)
 refine CW.seq fun K19 hK19 => ?_
 refine CW.region ?_
 refine WR.batch 2 [(1, .int .u64 a1), (2, .int .u64 a2), (8, .int .u8 a0), (24, .bool (a0 == (20 : Int)))] (by kernel_rfl) ?_
 refine WR.fin (by kernel_rfl) ?_
 refine go hK19 ?_
 refine CW.cond ((a0 == (20 : Int))) (by kernel_rfl) (fun ht20 => ?_) (fun ht20 => ?_)
 ·
  have hs21 := ifT ht20 hs18
  replace ht20 : a0 = (20 : Int) := (bEqT ht20)
  refine CW.seq fun K22 hK22 => ?_
  refine CW.region ?_
  refine WR.batch 5 [(6, .bool (decide (a1 ≥ a2))), (7, .int .i64 0)] (by kernel_rfl) ?_
  refine WR.fin (by kernel_rfl) ?_
  refine go hK22 ?_
  refine CW.ret ?_
  exact retV (.tuple #[.bool (decide (a1 ≥ a2)), .int .i64 0]) (by kernel_rfl) (⟨(Chg.refl _ _), (congrArg (fun r : (Bool × Int) => (.tuple #[.bool r.1, .int .i64 r.2] : Value)) hs21).symm⟩)
 have hs23 := ifF ht20 hs18
 replace ht20 : a0 ≠ (20 : Int) := (bEqF ht20)
 refine CW.seq fun K24 hK24 => ?_
 refine CW.region ?_
 refine WR.batch 2 [(1, .int .u64 a1), (2, .int .u64 a2), (8, .int .u8 a0), (29, .bool (a0 == (21 : Int)))] (by kernel_rfl) ?_
 refine WR.fin (by kernel_rfl) ?_
 refine go hK24 ?_
 refine CW.cond ((a0 == (21 : Int))) (by kernel_rfl) (fun ht25 => ?_) (fun ht25 => ?_)
 ·
  have hs26 := ifT ht25 hs23
  replace ht25 : a0 = (21 : Int) := (bEqT ht25)
  refine CW.seq fun K27 hK27 => ?_
  refine CW.region ?_
  refine WR.batch 5 [(6, .bool (decide (a1 < a2))), (7, .int .i64 0)] (by kernel_rfl) ?_
  refine WR.fin (by kernel_rfl) ?_
  refine go hK27 ?_
  refine CW.ret ?_
  exact retV (.tuple #[.bool (decide (a1 < a2)), .int .i64 0]) (by kernel_rfl) (⟨(Chg.refl _ _), (congrArg (fun r : (Bool × Int) => (.tuple #[.bool r.1, .int .i64 r.2] : Value)) hs26).symm⟩)
 have hs28 := ifF ht25 hs23
 replace ht25 : a0 ≠ (21 : Int) := (bEqF ht25)
 refine CW.seq fun K29 hK29 => ?_
 refine CW.region ?_
 refine WR.batch 2 [(1, .int .u64 a1), (2, .int .u64 a2), (8, .int .u8 a0), (34, .bool (a0 == (22 : Int)))] (by kernel_rfl) ?_
 refine WR.fin (by kernel_rfl) ?_
 refine go hK29 ?_
 refine CW.cond ((a0 == (22 : Int))) (by kernel_rfl) (fun ht30 => ?_) (fun ht30 => ?_)
 ·
  have hs31 := ifT ht30 hs28
  replace ht30 : a0 = (22 : Int) := (bEqT ht30)
  refine CW.seq fun K32 hK32 => ?_
  refine CW.region ?_
  refine WR.batch 5 [(6, .bool (decide (a1 ≤ a2))), (7, .int .i64 0)] (by kernel_rfl) ?_
  refine WR.fin (by kernel_rfl) ?_
  refine go hK32 ?_
  refine CW.ret ?_
  exact retV (.tuple #[.bool (decide (a1 ≤ a2)), .int .i64 0]) (by kernel_rfl) (⟨(Chg.refl _ _), (congrArg (fun r : (Bool × Int) => (.tuple #[.bool r.1, .int .i64 r.2] : Value)) hs31).symm⟩)
 have hs33 := ifF ht30 hs28
 replace ht30 : a0 ≠ (22 : Int) := (bEqF ht30)
 refine CW.seq fun K34 hK34 => ?_
 refine CW.region ?_
 refine WR.batch 2 [(1, .int .u64 a1), (2, .int .u64 a2), (8, .int .u8 a0), (39, .bool (a0 == (23 : Int)))] (by kernel_rfl) ?_
 refine WR.fin (by kernel_rfl) ?_
 refine go hK34 ?_
 refine CW.cond ((a0 == (23 : Int))) (by kernel_rfl) (fun ht35 => ?_) (fun ht35 => ?_)
 ·
  have hs36 := ifT ht35 hs33
  replace ht35 : a0 = (23 : Int) := (bEqT ht35)
  refine CW.seq fun K37 hK37 => ?_
  refine CW.region ?_
  refine WR.batch 7 [(6, .bool (decide ((IntKind.i64.wrap a1) > (IntKind.i64.wrap a2)))), (7, .int .i64 0)] (by kernel_rfl) ?_
  refine WR.fin (by kernel_rfl) ?_
  refine go hK37 ?_
  refine CW.ret ?_
  exact retV (.tuple #[.bool (decide ((IntKind.i64.wrap a1) > (IntKind.i64.wrap a2))), .int .i64 0]) (by kernel_rfl) (⟨(Chg.refl _ _), (congrArg (fun r : (Bool × Int) => (.tuple #[.bool r.1, .int .i64 r.2] : Value)) hs36).symm⟩)
 have hs38 := ifF ht35 hs33
 replace ht35 : a0 ≠ (23 : Int) := (bEqF ht35)
 refine CW.seq fun K39 hK39 => ?_
 refine CW.region ?_
 refine WR.batch 2 [(1, .int .u64 a1), (2, .int .u64 a2), (8, .int .u8 a0), (46, .bool (a0 == (24 : Int)))] (by kernel_rfl) ?_
 refine WR.fin (by kernel_rfl) ?_
 refine go hK39 ?_
 refine CW.cond ((a0 == (24 : Int))) (by kernel_rfl) (fun ht40 => ?_) (fun ht40 => ?_)
 ·
  have hs41 := ifT ht40 hs38
  replace ht40 : a0 = (24 : Int) := (bEqT ht40)
  refine CW.seq fun K42 hK42 => ?_
  refine CW.region ?_
  refine WR.batch 7 [(6, .bool (decide ((IntKind.i64.wrap a1) ≥ (IntKind.i64.wrap a2)))), (7, .int .i64 0)] (by kernel_rfl) ?_
  refine WR.fin (by kernel_rfl) ?_
  refine go hK42 ?_
  refine CW.ret ?_
  exact retV (.tuple #[.bool (decide ((IntKind.i64.wrap a1) ≥ (IntKind.i64.wrap a2))), .int .i64 0]) (by kernel_rfl) (⟨(Chg.refl _ _), (congrArg (fun r : (Bool × Int) => (.tuple #[.bool r.1, .int .i64 r.2] : Value)) hs41).symm⟩)
 have hs43 := ifF ht40 hs38
 replace ht40 : a0 ≠ (24 : Int) := (bEqF ht40)
 refine CW.seq fun K44 hK44 => ?_
 refine CW.region ?_
 refine WR.batch 2 [(1, .int .u64 a1), (2, .int .u64 a2), (8, .int .u8 a0), (53, .bool (a0 == (25 : Int)))] (by kernel_rfl) ?_
 refine WR.fin (by kernel_rfl) ?_
 refine go hK44 ?_
 refine CW.cond ((a0 == (25 : Int))) (by kernel_rfl) (fun ht45 => ?_) (fun ht45 => ?_)
 ·
  have hs46 := ifT ht45 hs43
  replace ht45 : a0 = (25 : Int) := (bEqT ht45)
  refine CW.seq fun K47 hK47 => ?_
  refine CW.region ?_
  refine WR.batch 7 [(6, .bool (decide ((IntKind.i64.wrap a1) < (IntKind.i64.wrap a2)))), (7, .int .i64 0)] (by kernel_rfl) ?_
  refine WR.fin (by kernel_rfl) ?_
  refine go hK47 ?_
  refine CW.ret ?_
  exact retV (.tuple #[.bool (decide ((IntKind.i64.wrap a1) < (IntKind.i64.wrap a2))), .int .i64 0]) (by kernel_rfl) (⟨(Chg.refl _ _), (congrArg (fun r : (Bool × Int) => (.tuple #[.bool r.1, .int .i64 r.2] : Value)) hs46).symm⟩)
 have hs48 := ifF ht45 hs43
 replace ht45 : a0 ≠ (25 : Int) := (bEqF ht45)
 refine CW.seq fun K49 hK49 => ?_
 refine CW.region ?_
 refine WR.batch 2 [(1, .int .u64 a1), (2, .int .u64 a2), (8, .int .u8 a0), (60, .bool (a0 == (26 : Int)))] (by kernel_rfl) ?_
 refine WR.fin (by kernel_rfl) ?_
 refine go hK49 ?_
 refine CW.cond ((a0 == (26 : Int))) (by kernel_rfl) (fun ht50 => ?_) (fun ht50 => ?_)
 ·
  have hs51 := ifT ht50 hs48
  replace ht50 : a0 = (26 : Int) := (bEqT ht50)
  refine CW.seq fun K52 hK52 => ?_
  refine CW.region ?_
  refine WR.batch 7 [(6, .bool (decide ((IntKind.i64.wrap a1) ≤ (IntKind.i64.wrap a2)))), (7, .int .i64 0)] (by kernel_rfl) ?_
  refine WR.fin (by kernel_rfl) ?_
  refine go hK52 ?_
  refine CW.ret ?_
  exact retV (.tuple #[.bool (decide ((IntKind.i64.wrap a1) ≤ (IntKind.i64.wrap a2))), .int .i64 0]) (by kernel_rfl) (⟨(Chg.refl _ _), (congrArg (fun r : (Bool × Int) => (.tuple #[.bool r.1, .int .i64 r.2] : Value)) hs51).symm⟩)
 have hs53 := ifF ht50 hs48
 replace ht50 : a0 ≠ (26 : Int) := (bEqF ht50)
 refine CW.seq fun K54 hK54 => ?_
 refine CW.region ?_
 refine WR.batch 2 [(1, .int .u64 a1), (2, .int .u64 a2), (67, .bool (a0 == (27 : Int)))] (by kernel_rfl) ?_
 refine WR.fin (by kernel_rfl) ?_
 refine go hK54 ?_
 refine CW.cond ((a0 == (27 : Int))) (by kernel_rfl) (fun ht55 => ?_) (fun ht55 => ?_)
 ·
  have hs56 := ifT ht55 hs53
  replace ht55 : a0 = (27 : Int) := (bEqT ht55)
  refine CW.seq fun K57 hK57 => ?_
  refine CW.region ?_
  refine WR.batch 6 [(6, .bool ((bAnd .u64 a1 a2) != (0 : Int))), (7, .int .i64 0)] (by kernel_rfl) ?_
  refine WR.fin (by kernel_rfl) ?_
  refine go hK57 ?_
  refine CW.ret ?_
  exact retV (.tuple #[.bool ((bAnd .u64 a1 a2) != (0 : Int)), .int .i64 0]) (by kernel_rfl) (⟨(Chg.refl _ _), (congrArg (fun r : (Bool × Int) => (.tuple #[.bool r.1, .int .i64 r.2] : Value)) hs56).symm⟩)
 have hs58 := ifF ht55 hs53
 replace ht55 : a0 ≠ (27 : Int) := (bEqF ht55)
 refine CW.skip ?_
 refine go hK2 ?_
 refine CW.seq fun K59 hK59 => ?_
 refine CW.region ?_
 refine WR.batch 2 [(6, .bool false), (7, .int .i64 2)] (by kernel_rfl) ?_
 refine WR.fin (by kernel_rfl) ?_
 refine go hK59 ?_
 refine CW.ret ?_
 exact retV (.tuple #[.bool false, .int .i64 2]) (by kernel_rfl) (⟨(Chg.refl _ _), (congrArg (fun r : (Bool × Int) => (.tuple #[.bool r.1, .int .i64 r.2] : Value)) hs58).symm⟩)

def alu_Is (a0 : Int) (a1 : Bool) (a2 : Int) (a3 : Int)  : (Bool × Int) := (if a1 then (letF (alu_is_u32 a0 (IntKind.u32.wrap a2) (IntKind.u32.wrap a3)) fun x7 => (x7.1, x7.2)) else (letF (alu_is_u64 a0 a2 a3) fun x17 => (x17.1, x17.2)))

theorem alu_Is_ok (a0 : Int) (a1 : Bool) (a2 : Int) (a3 : Int)  (_h_a0 : IU8 a0) (_h_a2 : IU64 a2) (_h_a3 : IU64 a3)  : II64 (alu_Is a0 a1 a2 a3).2 := by
 rw [alu_Is.eq_1]
 refine iteR (p := fun r : (Bool × Int) => II64 r.2) (fun hi1001 => ?_) (fun hi1001 => ?_)
 ·
  refine letR (p := fun r : (Bool × Int) => II64 r.2) fun x7 hx8 => ?_
  have hx9 : II64 x7.2 := by rw [← hx8]; exact alu_is_u32_ok a0 (IntKind.u32.wrap a2) (IntKind.u32.wrap a3) (by omega) (wrapU32 _) (wrapU32 _) 
  exact (by exact (show II64 x7.2 from (by omega)))
 refine letR (p := fun r : (Bool × Int) => II64 r.2) fun x17 hx18 => ?_
 have hx19 : II64 x17.2 := by rw [← hx18]; exact alu_is_u64_ok a0 a2 a3 (by omega) (by omega) (by omega) 
 exact (by exact (show II64 x17.2 from (by omega)))

theorem alu_Is_any (a0 : Int) (a1 : Bool) (a2 : Int) (a3 : Int)   (w : World)  (_h_a0 : IU8 a0) (_h_a2 : IU64 a2) (_h_a3 : IU64 a3)  : Calls Try.prog 36 #[.int .u8 a0, .bool a1, .int .u64 a2, .int .u64 a3] w (RetV w (.tuple #[.bool (alu_Is a0 a1 a2 a3).1, .int .i64 (alu_Is a0 a1 a2 a3).2])) := by
 have hs := alu_Is.eq_1 a0 a1 a2 a3
 refine calls_of_CW Try.func36 rfl (n := 25) Try.ntmps36 (by kernel_rfl) [0, 1, 2, 3] (F := [(0, .int .u8 a0), (1, .bool a1), (2, .int .u64 a2), (3, .int .u64 a3)]) (by kernel_rfl) ?_
 refine CW.seq fun K1 hK1 => ?_
 refine CW.region ?_
 refine WR.batch 2 [(0, .int .u8 a0), (1, .bool a1), (2, .int .u64 a2), (3, .int .u64 a3)] (by kernel_rfl) ?_
 refine WR.fin (by kernel_rfl) ?_
 refine go hK1 ?_
 refine CW.seq fun K2 hK2 => ?_
 refine CW.seq fun K3 hK3 => ?_
 refine CW.region ?_
 refine WR.batch 1 [(0, .int .u8 a0), (2, .int .u64 a2), (3, .int .u64 a3), (10, .bool a1)] (by kernel_rfl) ?_
 refine WR.fin (by kernel_rfl) ?_
 refine go hK3 ?_
 refine CW.cond (a1) (by kernel_rfl) (fun ht4 => ?_) (fun ht4 => ?_)
 ·
  have hs5 := ifT ht4 hs
  refine CW.seq fun K6 hK6 => ?_
  refine CW.region ?_
  refine WR.batch 5 [(11, .int .u8 a0), (13, .int .u32 (IntKind.u32.wrap a2)), (15, .int .u32 (IntKind.u32.wrap a3))] (by kernel_rfl) ?_
  obtain ⟨x7, hx8⟩ : ∃ x, alu_is_u32 a0 (IntKind.u32.wrap a2) (IntKind.u32.wrap a3) = x := ⟨_, rfl⟩
  have hs10 := letS hx8 hs5
  have hx9 : II64 x7.2 := by rw [← hx8]; exact alu_is_u32_ok a0 (IntKind.u32.wrap a2) (IntKind.u32.wrap a3) (by omega) (wrapU32 _) (wrapU32 _) 
  refine WR.call (dst := some 16) (by kernel_rfl) (retE (g := (fun r : (Bool × Int) => (.tuple #[.bool r.1, .int .i64 r.2] : Value))) hx8 (alu_is_u32_any a0 (IntKind.u32.wrap a2) (IntKind.u32.wrap a3) w  (by omega) (wrapU32 _) (wrapU32 _) )) ?_
  rintro _ w11 hc12 rfl
  have hz14 := hc12.size
  have hC13 := (Chg.refl [] w).pure hc12
  refine WR.batch 4 [(8, .bool x7.1), (9, .int .i64 x7.2)] (by kernel_rfl) ?_
  refine WR.fin (by kernel_rfl) ?_
  refine go hK6 ?_
  refine CW.ret ?_
  exact retV (.tuple #[.bool x7.1, .int .i64 x7.2]) (by kernel_rfl) (⟨hC13, (congrArg (fun r : (Bool × Int) => (.tuple #[.bool r.1, .int .i64 r.2] : Value)) hs10).symm⟩)
 have hs15 := ifF ht4 hs
 refine CW.skip ?_
 refine go hK2 ?_
 refine CW.seq fun K16 hK16 => ?_
 refine CW.region ?_
 refine WR.batch 3 [(19, .int .u8 a0), (20, .int .u64 a2), (21, .int .u64 a3)] (by kernel_rfl) ?_
 obtain ⟨x17, hx18⟩ : ∃ x, alu_is_u64 a0 a2 a3 = x := ⟨_, rfl⟩
 have hs20 := letS hx18 hs15
 have hx19 : II64 x17.2 := by rw [← hx18]; exact alu_is_u64_ok a0 a2 a3 (by omega) (by omega) (by omega) 
 refine WR.call (dst := some 22) (by kernel_rfl) (retE (g := (fun r : (Bool × Int) => (.tuple #[.bool r.1, .int .i64 r.2] : Value))) hx18 (alu_is_u64_any a0 a2 a3 w  (by omega) (by omega) (by omega) )) ?_
 rintro _ w21 hc22 rfl
 have hz24 := hc22.size
 have hC23 := (Chg.refl [] w).pure hc22
 refine WR.batch 4 [(8, .bool x17.1), (9, .int .i64 x17.2)] (by kernel_rfl) ?_
 refine WR.fin (by kernel_rfl) ?_
 refine go hK16 ?_
 refine CW.ret ?_
 exact retV (.tuple #[.bool x17.1, .int .i64 x17.2]) (by kernel_rfl) (⟨hC23, (congrArg (fun r : (Bool × Int) => (.tuple #[.bool r.1, .int .i64 r.2] : Value)) hs20).symm⟩)
end Go.V
