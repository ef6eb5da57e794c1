import Derived.Test.YtjiagljaipadmaaProg
import Derived.Test.YtjiagljaipadmaaSr
namespace Go.V
open Go.RowKit Go.Proofs
def tab0_s : ByteArray := { data := #[0, 1, 2, 2, 3, 3, 3, 3, 4, 4, 4, 4, 4, 4, 4, 4, 5, 5, 5, 5, 5, 5, 5, 5, 5, 5, 5, 5, 5, 5, 5, 5, 6, 6, 6, 6, 6, 6, 6, 6, 6, 6, 6, 6, 6, 6, 6, 6, 6, 6, 6, 6, 6, 6, 6, 6, 6, 6, 6, 6, 6, 6, 6, 6, 7, 7, 7, 7, 7, 7, 7, 7, 7, 7, 7, 7, 7, 7, 7, 7, 7, 7, 7, 7, 7, 7, 7, 7, 7, 7, 7, 7, 7, 7, 7, 7, 7, 7, 7, 7, 7, 7, 7, 7, 7, 7, 7, 7, 7, 7, 7, 7, 7, 7, 7, 7, 7, 7, 7, 7, 7, 7, 7, 7, 7, 7, 7, 7, 8, 8, 8, 8, 8, 8, 8, 8, 8, 8, 8, 8, 8, 8, 8, 8, 8, 8, 8, 8, 8, 8, 8, 8, 8, 8, 8, 8, 8, 8, 8, 8, 8, 8, 8, 8, 8, 8, 8, 8, 8, 8, 8, 8, 8, 8, 8, 8, 8, 8, 8, 8, 8, 8, 8, 8, 8, 8, 8, 8, 8, 8, 8, 8, 8, 8, 8, 8, 8, 8, 8, 8, 8, 8, 8, 8, 8, 8, 8, 8, 8, 8, 8, 8, 8, 8, 8, 8, 8, 8, 8, 8, 8, 8, 8, 8, 8, 8, 8, 8, 8, 8, 8, 8, 8, 8, 8, 8, 8, 8, 8, 8, 8, 8, 8, 8, 8, 8, 8, 8, 8, 8, 8, 8, 8, 8, 8, 8] }
def tab0 : List Int := [0, 1, 2, 2, 3, 3, 3, 3, 4, 4, 4, 4, 4, 4, 4, 4, 5, 5, 5, 5, 5, 5, 5, 5, 5, 5, 5, 5, 5, 5, 5, 5, 6, 6, 6, 6, 6, 6, 6, 6, 6, 6, 6, 6, 6, 6, 6, 6, 6, 6, 6, 6, 6, 6, 6, 6, 6, 6, 6, 6, 6, 6, 6, 6, 7, 7, 7, 7, 7, 7, 7, 7, 7, 7, 7, 7, 7, 7, 7, 7, 7, 7, 7, 7, 7, 7, 7, 7, 7, 7, 7, 7, 7, 7, 7, 7, 7, 7, 7, 7, 7, 7, 7, 7, 7, 7, 7, 7, 7, 7, 7, 7, 7, 7, 7, 7, 7, 7, 7, 7, 7, 7, 7, 7, 7, 7, 7, 7, 8, 8, 8, 8, 8, 8, 8, 8, 8, 8, 8, 8, 8, 8, 8, 8, 8, 8, 8, 8, 8, 8, 8, 8, 8, 8, 8, 8, 8, 8, 8, 8, 8, 8, 8, 8, 8, 8, 8, 8, 8, 8, 8, 8, 8, 8, 8, 8, 8, 8, 8, 8, 8, 8, 8, 8, 8, 8, 8, 8, 8, 8, 8, 8, 8, 8, 8, 8, 8, 8, 8, 8, 8, 8, 8, 8, 8, 8, 8, 8, 8, 8, 8, 8, 8, 8, 8, 8, 8, 8, 8, 8, 8, 8, 8, 8, 8, 8, 8, 8, 8, 8, 8, 8, 8, 8, 8, 8, 8, 8, 8, 8, 8, 8, 8, 8, 8, 8, 8, 8, 8, 8, 8, 8, 8, 8, 8, 8]
theorem tab0_len : tab0.length = 256 := by decide +kernel
theorem tab0_rng (j : Nat) : 0 ≤ tab0.getD j 0 ∧ tab0.getD j 0 ≤ 255 := by
  rcases Nat.lt_or_ge j tab0.length with h | h
  · exact intsBd tab0 0 255 (by decide +kernel) h
  · rw [List.getD_eq_getElem?_getD, List.getElem?_eq_none h]; decide

def Len64 (a0 : Int)  : Int := (if decide (a0 ≥ (4294967296 : Int)) then (if decide ((sShr .u64 a0 (32 : Int)) ≥ (65536 : Int)) then (if decide ((sShr .u64 (sShr .u64 a0 (32 : Int)) (16 : Int)) ≥ (256 : Int)) then ((56 : Int) + ((tab0.getD (IntKind.u8.wrap (sShr .u64 (sShr .u64 (sShr .u64 a0 (32 : Int)) (16 : Int)) (8 : Int))).toNat 0))) else ((48 : Int) + ((tab0.getD (IntKind.u8.wrap (sShr .u64 (sShr .u64 a0 (32 : Int)) (16 : Int))).toNat 0)))) else (if decide ((sShr .u64 a0 (32 : Int)) ≥ (256 : Int)) then ((40 : Int) + ((tab0.getD (IntKind.u8.wrap (sShr .u64 (sShr .u64 a0 (32 : Int)) (8 : Int))).toNat 0))) else ((32 : Int) + ((tab0.getD (IntKind.u8.wrap (sShr .u64 a0 (32 : Int))).toNat 0))))) else (if decide (a0 ≥ (65536 : Int)) then (if decide ((sShr .u64 a0 (16 : Int)) ≥ (256 : Int)) then ((24 : Int) + ((tab0.getD (IntKind.u8.wrap (sShr .u64 (sShr .u64 a0 (16 : Int)) (8 : Int))).toNat 0))) else ((16 : Int) + ((tab0.getD (IntKind.u8.wrap (sShr .u64 a0 (16 : Int))).toNat 0)))) else (if decide (a0 ≥ (256 : Int)) then ((8 : Int) + ((tab0.getD (IntKind.u8.wrap (sShr .u64 a0 (8 : Int))).toNat 0))) else ((0 : Int) + ((tab0.getD (IntKind.u8.wrap a0).toNat 0))))))

theorem Len64_ok (a0 : Int)  (_h_a0 : (0 ≤ a0 ∧ a0 ≤ 18446744073709551615))  : (-9223372036854775808 ≤ (Len64 a0) ∧ (Len64 a0) ≤ 9223372036854775807) := by
 rw [Len64.eq_1]
 refine iteR (p := fun r : Int => (-9223372036854775808 ≤ r ∧ r ≤ 9223372036854775807)) (fun hi1001 => ?_) (fun hi1001 => ?_)
 ·
  replace hi1001 : a0 ≥ (4294967296 : Int) := (of_decide_eq_true hi1001)
  refine iteR (p := fun r : Int => (-9223372036854775808 ≤ r ∧ r ≤ 9223372036854775807)) (fun hi1002 => ?_) (fun hi1002 => ?_)
  ·
   replace hi1002 : (sShr .u64 a0 (32 : Int)) ≥ (65536 : Int) := (of_decide_eq_true hi1002)
   refine iteR (p := fun r : Int => (-9223372036854775808 ≤ r ∧ r ≤ 9223372036854775807)) (fun hi1003 => ?_) (fun hi1003 => ?_)
   ·
    replace hi1003 : (sShr .u64 (sShr .u64 a0 (32 : Int)) (16 : Int)) ≥ (256 : Int) := (of_decide_eq_true hi1003)
    exact (by have : 0 ≤ (tab0.getD (IntKind.u8.wrap (sShr .u64 (sShr .u64 (sShr .u64 a0 (32 : Int)) (16 : Int)) (8 : Int))).toNat 0) ∧ (tab0.getD (IntKind.u8.wrap (sShr .u64 (sShr .u64 (sShr .u64 a0 (32 : Int)) (16 : Int)) (8 : Int))).toNat 0) ≤ 255 := tab0_rng (IntKind.u8.wrap (sShr .u64 (sShr .u64 (sShr .u64 a0 (32 : Int)) (16 : Int)) (8 : Int))).toNat; exact (show (-9223372036854775808 ≤ ((56 : Int) + ((tab0.getD (IntKind.u8.wrap (sShr .u64 (sShr .u64 (sShr .u64 a0 (32 : Int)) (16 : Int)) (8 : Int))).toNat 0))) ∧ ((56 : Int) + ((tab0.getD (IntKind.u8.wrap (sShr .u64 (sShr .u64 (sShr .u64 a0 (32 : Int)) (16 : Int)) (8 : Int))).toNat 0))) ≤ 9223372036854775807) from (by omega)))
   replace hi1003 : ¬ ((sShr .u64 (sShr .u64 a0 (32 : Int)) (16 : Int)) ≥ (256 : Int)) := (of_decide_eq_false hi1003)
   exact (by have : 0 ≤ (tab0.getD (IntKind.u8.wrap (sShr .u64 (sShr .u64 a0 (32 : Int)) (16 : Int))).toNat 0) ∧ (tab0.getD (IntKind.u8.wrap (sShr .u64 (sShr .u64 a0 (32 : Int)) (16 : Int))).toNat 0) ≤ 255 := tab0_rng (IntKind.u8.wrap (sShr .u64 (sShr .u64 a0 (32 : Int)) (16 : Int))).toNat; exact (show (-9223372036854775808 ≤ ((48 : Int) + ((tab0.getD (IntKind.u8.wrap (sShr .u64 (sShr .u64 a0 (32 : Int)) (16 : Int))).toNat 0))) ∧ ((48 : Int) + ((tab0.getD (IntKind.u8.wrap (sShr .u64 (sShr .u64 a0 (32 : Int)) (16 : Int))).toNat 0))) ≤ 9223372036854775807) from (by omega)))
  replace hi1002 : ¬ ((sShr .u64 a0 (32 : Int)) ≥ (65536 : Int)) := (of_decide_eq_false hi1002)
  refine iteR (p := fun r : Int => (-9223372036854775808 ≤ r ∧ r ≤ 9223372036854775807)) (fun hi1004 => ?_) (fun hi1004 => ?_)
  ·
   replace hi1004 : (sShr .u64 a0 (32 : Int)) ≥ (256 : Int) := (of_decide_eq_true hi1004)
   exact (by have : 0 ≤ (tab0.getD (IntKind.u8.wrap (sShr .u64 (sShr .u64 a0 (32 : Int)) (8 : Int))).toNat 0) ∧ (tab0.getD (IntKind.u8.wrap (sShr .u64 (sShr .u64 a0 (32 : Int)) (8 : Int))).toNat 0) ≤ 255 := tab0_rng (IntKind.u8.wrap (sShr .u64 (sShr .u64 a0 (32 : Int)) (8 : Int))).toNat; exact (show (-9223372036854775808 ≤ ((40 : Int) + ((tab0.getD (IntKind.u8.wrap (sShr .u64 (sShr .u64 a0 (32 : Int)) (8 : Int))).toNat 0))) ∧ ((40 : Int) + ((tab0.getD (IntKind.u8.wrap (sShr .u64 (sShr .u64 a0 (32 : Int)) (8 : Int))).toNat 0))) ≤ 9223372036854775807) from (by omega)))
  replace hi1004 : ¬ ((sShr .u64 a0 (32 : Int)) ≥ (256 : Int)) := (of_decide_eq_false hi1004)
  exact (by have : 0 ≤ (tab0.getD (IntKind.u8.wrap (sShr .u64 a0 (32 : Int))).toNat 0) ∧ (tab0.getD (IntKind.u8.wrap (sShr .u64 a0 (32 : Int))).toNat 0) ≤ 255 := tab0_rng (IntKind.u8.wrap (sShr .u64 a0 (32 : Int))).toNat; exact (show (-9223372036854775808 ≤ ((32 : Int) + ((tab0.getD (IntKind.u8.wrap (sShr .u64 a0 (32 : Int))).toNat 0))) ∧ ((32 : Int) + ((tab0.getD (IntKind.u8.wrap (sShr .u64 a0 (32 : Int))).toNat 0))) ≤ 9223372036854775807) from (by omega)))
 replace hi1001 : ¬ (a0 ≥ (4294967296 : Int)) := (of_decide_eq_false hi1001)
 refine iteR (p := fun r : Int => (-9223372036854775808 ≤ r ∧ r ≤ 9223372036854775807)) (fun hi1005 => ?_) (fun hi1005 => ?_)
 ·
  replace hi1005 : a0 ≥ (65536 : Int) := (of_decide_eq_true hi1005)
  refine iteR (p := fun r : Int => (-9223372036854775808 ≤ r ∧ r ≤ 9223372036854775807)) (fun hi1006 => ?_) (fun hi1006 => ?_)
  ·
   replace hi1006 : (sShr .u64 a0 (16 : Int)) ≥ (256 : Int) := (of_decide_eq_true hi1006)
   exact (by have : 0 ≤ (tab0.getD (IntKind.u8.wrap (sShr .u64 (sShr .u64 a0 (16 : Int)) (8 : Int))).toNat 0) ∧ (tab0.getD (IntKind.u8.wrap (sShr .u64 (sShr .u64 a0 (16 : Int)) (8 : Int))).toNat 0) ≤ 255 := tab0_rng (IntKind.u8.wrap (sShr .u64 (sShr .u64 a0 (16 : Int)) (8 : Int))).toNat; exact (show (-9223372036854775808 ≤ ((24 : Int) + ((tab0.getD (IntKind.u8.wrap (sShr .u64 (sShr .u64 a0 (16 : Int)) (8 : Int))).toNat 0))) ∧ ((24 : Int) + ((tab0.getD (IntKind.u8.wrap (sShr .u64 (sShr .u64 a0 (16 : Int)) (8 : Int))).toNat 0))) ≤ 9223372036854775807) from (by omega)))
  replace hi1006 : ¬ ((sShr .u64 a0 (16 : Int)) ≥ (256 : Int)) := (of_decide_eq_false hi1006)
  exact (by have : 0 ≤ (tab0.getD (IntKind.u8.wrap (sShr .u64 a0 (16 : Int))).toNat 0) ∧ (tab0.getD (IntKind.u8.wrap (sShr .u64 a0 (16 : Int))).toNat 0) ≤ 255 := tab0_rng (IntKind.u8.wrap (sShr .u64 a0 (16 : Int))).toNat; exact (show (-9223372036854775808 ≤ ((16 : Int) + ((tab0.getD (IntKind.u8.wrap (sShr .u64 a0 (16 : Int))).toNat 0))) ∧ ((16 : Int) + ((tab0.getD (IntKind.u8.wrap (sShr .u64 a0 (16 : Int))).toNat 0))) ≤ 9223372036854775807) from (by omega)))
 replace hi1005 : ¬ (a0 ≥ (65536 : Int)) := (of_decide_eq_false hi1005)
 refine iteR (p := fun r : Int => (-9223372036854775808 ≤ r ∧ r ≤ 9223372036854775807)) (fun hi1007 => ?_) (fun hi1007 => ?_)
 ·
  replace hi1007 : a0 ≥ (256 : Int) := (of_decide_eq_true hi1007)
  exact (by have : 0 ≤ (tab0.getD (IntKind.u8.wrap (sShr .u64 a0 (8 : Int))).toNat 0) ∧ (tab0.getD (IntKind.u8.wrap (sShr .u64 a0 (8 : Int))).toNat 0) ≤ 255 := tab0_rng (IntKind.u8.wrap (sShr .u64 a0 (8 : Int))).toNat; exact (show (-9223372036854775808 ≤ ((8 : Int) + ((tab0.getD (IntKind.u8.wrap (sShr .u64 a0 (8 : Int))).toNat 0))) ∧ ((8 : Int) + ((tab0.getD (IntKind.u8.wrap (sShr .u64 a0 (8 : Int))).toNat 0))) ≤ 9223372036854775807) from (by omega)))
 replace hi1007 : ¬ (a0 ≥ (256 : Int)) := (of_decide_eq_false hi1007)
 exact (by have : 0 ≤ (tab0.getD (IntKind.u8.wrap a0).toNat 0) ∧ (tab0.getD (IntKind.u8.wrap a0).toNat 0) ≤ 255 := tab0_rng (IntKind.u8.wrap a0).toNat; exact (show (-9223372036854775808 ≤ ((0 : Int) + ((tab0.getD (IntKind.u8.wrap a0).toNat 0))) ∧ ((0 : Int) + ((tab0.getD (IntKind.u8.wrap a0).toNat 0))) ≤ 9223372036854775807) from (by omega)))

set_option maxHeartbeats 4000000 in
theorem Len64_any (a0 : Int)   (w : World)  (_h_a0 : (0 ≤ a0 ∧ a0 ≤ 18446744073709551615))  : Calls Try.prog 139 #[.int .u64 a0] w (RetV w (.int .i64 (Len64 a0))) := by
 have hs := Len64.eq_1 a0
 refine calls_of_CW Try.func139 rfl (n := 25) Try.ntmps139 (by kernel_rfl) [0] (F := [(0, .int .u64 a0)]) (by kernel_rfl) ?_
 refine CW.seq fun K1 hK1 => ?_
 refine CW.region ?_
 refine WR.batch 1 [(0, .int .u64 a0), (2, .int .i64 0)] (by kernel_rfl) ?_
 refine WR.fin (by kernel_rfl) ?_
 refine go hK1 ?_
 refine CW.seq fun K2 hK2 => ?_
 refine CW.seq fun K3 hK3 => ?_
 refine CW.region ?_
 refine WR.batch 2 [(0, .int .u64 a0), (2, .int .i64 0), (4, .bool (decide (a0 ≥ (4294967296 : Int))))] (by kernel_rfl) ?_
 refine WR.fin (by kernel_rfl) ?_
 refine go hK3 ?_
 refine CW.cond (decide (a0 ≥ (4294967296 : Int))) (by kernel_rfl) (fun ht4 => ?_) (fun ht4 => ?_)
 ·
  have hs5 := ifT ht4 hs
  replace ht4 : a0 ≥ (4294967296 : Int) := (of_decide_eq_true ht4)
  refine CW.seq fun K6 hK6 => ?_
  refine CW.region ?_
  refine WR.batch 3 [(0, .int .u64 (sShr .u64 a0 (32 : Int)))] (by kernel_rfl) ?_
  refine WR.fin (by kernel_rfl) ?_
  refine go hK6 ?_
  refine CW.region ?_
  refine WR.batch 1 [(0, .int .u64 (sShr .u64 a0 (32 : Int))), (2, .int .i64 32)] (by kernel_rfl) ?_
  refine WR.fin (by kernel_rfl) ?_
  refine go hK2 ?_
  refine CW.seq fun K7 hK7 => ?_
  refine CW.seq fun K8 hK8 => ?_
  refine CW.region ?_
  refine WR.batch 2 [(0, .int .u64 (sShr .u64 a0 (32 : Int))), (2, .int .i64 32), (8, .bool (decide ((sShr .u64 a0 (32 : Int)) ≥ (65536 : Int))))] (by kernel_rfl) ?_
  refine WR.fin (by kernel_rfl) ?_
  refine go hK8 ?_
  refine CW.cond (decide ((sShr .u64 a0 (32 : Int)) ≥ (65536 : Int))) (by kernel_rfl) (fun ht9 => ?_) (fun ht9 => ?_)
  ·
   have hs10 := ifT ht9 hs5
   replace ht9 : (sShr .u64 a0 (32 : Int)) ≥ (65536 : Int) := (of_decide_eq_true ht9)
   refine CW.seq fun K11 hK11 => ?_
   refine CW.region ?_
   refine WR.batch 3 [(0, .int .u64 (sShr .u64 (sShr .u64 a0 (32 : Int)) (16 : Int))), (2, .int .i64 32)] (by kernel_rfl) ?_
   refine WR.fin (by kernel_rfl) ?_
   refine go hK11 ?_
   refine CW.region ?_
   refine WR.batch 3 [(0, .int .u64 (sShr .u64 (sShr .u64 a0 (32 : Int)) (16 : Int))), (2, .int .i64 48)] (by kernel_rfl) ?_
   refine WR.fin (by kernel_rfl) ?_
   refine go hK7 ?_
   refine CW.seq fun K12 hK12 => ?_
   refine CW.seq fun K13 hK13 => ?_
   refine CW.region ?_
   refine WR.batch 2 [(0, .int .u64 (sShr .u64 (sShr .u64 a0 (32 : Int)) (16 : Int))), (2, .int .i64 48), (14, .bool (decide ((sShr .u64 (sShr .u64 a0 (32 : Int)) (16 : Int)) ≥ (256 : Int))))] (by kernel_rfl) ?_
   refine WR.fin (by kernel_rfl) ?_
   refine go hK13 ?_
   refine CW.cond (decide ((sShr .u64 (sShr .u64 a0 (32 : Int)) (16 : Int)) ≥ (256 : Int))) (by kernel_rfl) (fun ht14 => ?_) (fun ht14 => ?_)
   ·
    have hs15 := ifT ht14 hs10
    replace ht14 : (sShr .u64 (sShr .u64 a0 (32 : Int)) (16 : Int)) ≥ (256 : Int) := (of_decide_eq_true ht14)
    refine CW.seq fun K16 hK16 => ?_
    refine CW.region ?_
    refine WR.batch 3 [(0, .int .u64 (sShr .u64 (sShr .u64 (sShr .u64 a0 (32 : Int)) (16 : Int)) (8 : Int))), (2, .int .i64 48)] (by kernel_rfl) ?_
    refine WR.fin (by kernel_rfl) ?_
    refine go hK16 ?_
    refine CW.region ?_
    refine WR.batch 3 [(0, .int .u64 (sShr .u64 (sShr .u64 (sShr .u64 a0 (32 : Int)) (16 : Int)) (8 : Int))), (2, .int .i64 56)] (by kernel_rfl) ?_
    refine WR.fin (by kernel_rfl) ?_
    refine go hK12 ?_
    refine CW.seq fun K17 hK17 => ?_
    refine CW.region ?_
    refine WR.batch 3 [(19, .int .i64 56), (21, .int .u8 (IntKind.u8.wrap (sShr .u64 (sShr .u64 (sShr .u64 a0 (32 : Int)) (16 : Int)) (8 : Int))))] (by kernel_rfl) ?_
    refine WR.valR (dst := some 22) (v := .int .u8 (tab0.getD (IntKind.u8.wrap (sShr .u64 (sShr .u64 (sShr .u64 a0 (32 : Int)) (16 : Int)) (8 : Int))).toNat 0)) (w' := w) (run_idxS (s := tab0_s) (t := 9) (kk := .u8) (i := (IntKind.u8.wrap (sShr .u64 (sShr .u64 (sShr .u64 a0 (32 : Int)) (16 : Int)) (8 : Int)))) tab0 (by kernel_rfl) (by kernel_rfl) (by kernel_rfl) (show 0 ≤ (IntKind.u8.wrap (sShr .u64 (sShr .u64 (sShr .u64 a0 (32 : Int)) (16 : Int)) (8 : Int))) ∧ (IntKind.u8.wrap (sShr .u64 (sShr .u64 (sShr .u64 a0 (32 : Int)) (16 : Int)) (8 : Int))) ≤ 255 from (wrapU8 _)).1 (by have hh : 0 ≤ (IntKind.u8.wrap (sShr .u64 (sShr .u64 (sShr .u64 a0 (32 : Int)) (16 : Int)) (8 : Int))) ∧ (IntKind.u8.wrap (sShr .u64 (sShr .u64 (sShr .u64 a0 (32 : Int)) (16 : Int)) (8 : Int))) ≤ 255 := (wrapU8 _); rw [tab0_len]; omega) w) ?_
    have hm18 : 0 ≤ (tab0.getD (IntKind.u8.wrap (sShr .u64 (sShr .u64 (sShr .u64 a0 (32 : Int)) (16 : Int)) (8 : Int))).toNat 0) ∧ (tab0.getD (IntKind.u8.wrap (sShr .u64 (sShr .u64 (sShr .u64 a0 (32 : Int)) (16 : Int)) (8 : Int))).toNat 0) ≤ 255 := tab0_rng (IntKind.u8.wrap (sShr .u64 (sShr .u64 (sShr .u64 a0 (32 : Int)) (16 : Int)) (8 : Int))).toNat
    refine WR.batch 1 [(19, .int .i64 56), (23, .int .i64 (IntKind.i64.wrap ((tab0.getD (IntKind.u8.wrap (sShr .u64 (sShr .u64 (sShr .u64 a0 (32 : Int)) (16 : Int)) (8 : Int))).toNat 0))))] (by kernel_rfl) ?_
    have hw19 : IntKind.i64.wrap ((tab0.getD (IntKind.u8.wrap (sShr .u64 (sShr .u64 (sShr .u64 a0 (32 : Int)) (16 : Int)) (8 : Int))).toNat 0)) = ((tab0.getD (IntKind.u8.wrap (sShr .u64 (sShr .u64 (sShr .u64 a0 (32 : Int)) (16 : Int)) (8 : Int))).toNat 0)) := IntWalk.i64_in _ (by omega)
    refine WR.eqF (F' := [(19, .int .i64 56), (23, .int .i64 ((tab0.getD (IntKind.u8.wrap (sShr .u64 (sShr .u64 (sShr .u64 a0 (32 : Int)) (16 : Int)) (8 : Int))).toNat 0)))]) (by rw [hw19]) ?_
    refine WR.batch 1 [(24, .int .i64 (IntKind.i64.wrap ((56 : Int) + ((tab0.getD (IntKind.u8.wrap (sShr .u64 (sShr .u64 (sShr .u64 a0 (32 : Int)) (16 : Int)) (8 : Int))).toNat 0)))))] (by kernel_rfl) ?_
    have hw20 : IntKind.i64.wrap ((56 : Int) + ((tab0.getD (IntKind.u8.wrap (sShr .u64 (sShr .u64 (sShr .u64 a0 (32 : Int)) (16 : Int)) (8 : Int))).toNat 0))) = ((56 : Int) + ((tab0.getD (IntKind.u8.wrap (sShr .u64 (sShr .u64 (sShr .u64 a0 (32 : Int)) (16 : Int)) (8 : Int))).toNat 0))) := IntWalk.i64_in _ (by omega)
    refine WR.eqF (F' := [(24, .int .i64 ((56 : Int) + ((tab0.getD (IntKind.u8.wrap (sShr .u64 (sShr .u64 (sShr .u64 a0 (32 : Int)) (16 : Int)) (8 : Int))).toNat 0))))]) (by rw [hw20]) ?_
    refine WR.batch 1 [(2, .int .i64 ((56 : Int) + ((tab0.getD (IntKind.u8.wrap (sShr .u64 (sShr .u64 (sShr .u64 a0 (32 : Int)) (16 : Int)) (8 : Int))).toNat 0))))] (by kernel_rfl) ?_
    refine WR.fin (by kernel_rfl) ?_
    refine go hK17 ?_
    refine CW.ret ?_
    exact retV (.int .i64 ((56 : Int) + ((tab0.getD (IntKind.u8.wrap (sShr .u64 (sShr .u64 (sShr .u64 a0 (32 : Int)) (16 : Int)) (8 : Int))).toNat 0)))) (by kernel_rfl) (⟨(Chg.refl _ _), (congrArg (fun r : Int => (.int .i64 r : Value)) hs15).symm⟩)
   have hs21 := ifF ht14 hs10
   replace ht14 : ¬ ((sShr .u64 (sShr .u64 a0 (32 : Int)) (16 : Int)) ≥ (256 : Int)) := (of_decide_eq_false ht14)
   refine CW.skip ?_
   refine go hK12 ?_
   refine CW.seq fun K22 hK22 => ?_
   refine CW.region ?_
   refine WR.batch 3 [(19, .int .i64 48), (21, .int .u8 (IntKind.u8.wrap (sShr .u64 (sShr .u64 a0 (32 : Int)) (16 : Int))))] (by kernel_rfl) ?_
   refine WR.valR (dst := some 22) (v := .int .u8 (tab0.getD (IntKind.u8.wrap (sShr .u64 (sShr .u64 a0 (32 : Int)) (16 : Int))).toNat 0)) (w' := w) (run_idxS (s := tab0_s) (t := 9) (kk := .u8) (i := (IntKind.u8.wrap (sShr .u64 (sShr .u64 a0 (32 : Int)) (16 : Int)))) tab0 (by kernel_rfl) (by kernel_rfl) (by kernel_rfl) (show 0 ≤ (IntKind.u8.wrap (sShr .u64 (sShr .u64 a0 (32 : Int)) (16 : Int))) ∧ (IntKind.u8.wrap (sShr .u64 (sShr .u64 a0 (32 : Int)) (16 : Int))) ≤ 255 from (wrapU8 _)).1 (by have hh : 0 ≤ (IntKind.u8.wrap (sShr .u64 (sShr .u64 a0 (32 : Int)) (16 : Int))) ∧ (IntKind.u8.wrap (sShr .u64 (sShr .u64 a0 (32 : Int)) (16 : Int))) ≤ 255 := (wrapU8 _); rw [tab0_len]; omega) w) ?_
   have hm23 : 0 ≤ (tab0.getD (IntKind.u8.wrap (sShr .u64 (sShr .u64 a0 (32 : Int)) (16 : Int))).toNat 0) ∧ (tab0.getD (IntKind.u8.wrap (sShr .u64 (sShr .u64 a0 (32 : Int)) (16 : Int))).toNat 0) ≤ 255 := tab0_rng (IntKind.u8.wrap (sShr .u64 (sShr .u64 a0 (32 : Int)) (16 : Int))).toNat
   refine WR.batch 1 [(19, .int .i64 48), (23, .int .i64 (IntKind.i64.wrap ((tab0.getD (IntKind.u8.wrap (sShr .u64 (sShr .u64 a0 (32 : Int)) (16 : Int))).toNat 0))))] (by kernel_rfl) ?_
   have hw24 : IntKind.i64.wrap ((tab0.getD (IntKind.u8.wrap (sShr .u64 (sShr .u64 a0 (32 : Int)) (16 : Int))).toNat 0)) = ((tab0.getD (IntKind.u8.wrap (sShr .u64 (sShr .u64 a0 (32 : Int)) (16 : Int))).toNat 0)) := IntWalk.i64_in _ (by omega)
   refine WR.eqF (F' := [(19, .int .i64 48), (23, .int .i64 ((tab0.getD (IntKind.u8.wrap (sShr .u64 (sShr .u64 a0 (32 : Int)) (16 : Int))).toNat 0)))]) (by rw [hw24]) ?_
   refine WR.batch 1 [(24, .int .i64 (IntKind.i64.wrap ((48 : Int) + ((tab0.getD (IntKind.u8.wrap (sShr .u64 (sShr .u64 a0 (32 : Int)) (16 : Int))).toNat 0)))))] (by kernel_rfl) ?_
   have hw25 : IntKind.i64.wrap ((48 : Int) + ((tab0.getD (IntKind.u8.wrap (sShr .u64 (sShr .u64 a0 (32 : Int)) (16 : Int))).toNat 0))) = ((48 : Int) + ((tab0.getD (IntKind.u8.wrap (sShr .u64 (sShr .u64 a0 (32 : Int)) (16 : Int))).toNat 0))) := IntWalk.i64_in _ (by omega)
   refine WR.eqF (F' := [(24, .int .i64 ((48 : Int) + ((tab0.getD (IntKind.u8.wrap (sShr .u64 (sShr .u64 a0 (32 : Int)) (16 : Int))).toNat 0))))]) (by rw [hw25]) ?_
   refine WR.batch 1 [(2, .int .i64 ((48 : Int) + ((tab0.getD (IntKind.u8.wrap (sShr .u64 (sShr .u64 a0 (32 : Int)) (16 : Int))).toNat 0))))] (by kernel_rfl) ?_
   refine WR.fin (by kernel_rfl) ?_
   refine go hK22 ?_
   refine CW.ret ?_
   exact retV (.int .i64 ((48 : Int) + ((tab0.getD (IntKind.u8.wrap (sShr .u64 (sShr .u64 a0 (32 : Int)) (16 : Int))).toNat 0)))) (by kernel_rfl) (⟨(Chg.refl _ _), (congrArg (fun r : Int => (.int .i64 r : Value)) hs21).symm⟩)
  have hs26 := ifF ht9 hs5
  replace ht9 : ¬ ((sShr .u64 a0 (32 : Int)) ≥ (65536 : Int)) := (of_decide_eq_false ht9)
  refine CW.skip ?_
  refine go hK7 ?_
  refine CW.seq fun K27 hK27 => ?_
  refine CW.seq fun K28 hK28 => ?_
  refine CW.region ?_
  refine WR.batch 2 [(0, .int .u64 (sShr .u64 a0 (32 : Int))), (2, .int .i64 32), (14, .bool (decide ((sShr .u64 a0 (32 : Int)) ≥ (256 : Int))))] (by kernel_rfl) ?_
  refine WR.fin (by kernel_rfl) ?_
  refine go hK28 ?_
  refine CW.cond (decide ((sShr .u64 a0 (32 : Int)) ≥ (256 : Int))) (by kernel_rfl) (fun ht29 => ?_) (fun ht29 => ?_)
  ·
   have hs30 := ifT ht29 hs26
   replace ht29 : (sShr .u64 a0 (32 : Int)) ≥ (256 : Int) := (of_decide_eq_true ht29)
   refine CW.seq fun K31 hK31 => ?_
   refine CW.region ?_
   refine WR.batch 3 [(0, .int .u64 (sShr .u64 (sShr .u64 a0 (32 : Int)) (8 : Int))), (2, .int .i64 32)] (by kernel_rfl) ?_
   refine WR.fin (by kernel_rfl) ?_
   refine go hK31 ?_
   refine CW.region ?_
   refine WR.batch 3 [(0, .int .u64 (sShr .u64 (sShr .u64 a0 (32 : Int)) (8 : Int))), (2, .int .i64 40)] (by kernel_rfl) ?_
   refine WR.fin (by kernel_rfl) ?_
   refine go hK27 ?_
   refine CW.seq fun K32 hK32 => ?_
   refine CW.region ?_
   refine WR.batch 3 [(19, .int .i64 40), (21, .int .u8 (IntKind.u8.wrap (sShr .u64 (sShr .u64 a0 (32 : Int)) (8 : Int))))] (by kernel_rfl) ?_
   refine WR.valR (dst := some 22) (v := .int .u8 (tab0.getD (IntKind.u8.wrap (sShr .u64 (sShr .u64 a0 (32 : Int)) (8 : Int))).toNat 0)) (w' := w) (run_idxS (s := tab0_s) (t := 9) (kk := .u8) (i := (IntKind.u8.wrap (sShr .u64 (sShr .u64 a0 (32 : Int)) (8 : Int)))) tab0 (by kernel_rfl) (by kernel_rfl) (by kernel_rfl) (show 0 ≤ (IntKind.u8.wrap (sShr .u64 (sShr .u64 a0 (32 : Int)) (8 : Int))) ∧ (IntKind.u8.wrap (sShr .u64 (sShr .u64 a0 (32 : Int)) (8 : Int))) ≤ 255 from (wrapU8 _)).1 (by have hh : 0 ≤ (IntKind.u8.wrap (sShr .u64 (sShr .u64 a0 (32 : Int)) (8 : Int))) ∧ (IntKind.u8.wrap (sShr .u64 (sShr .u64 a0 (32 : Int)) (8 : Int))) ≤ 255 := (wrapU8 _); rw [tab0_len]; omega) w) ?_
   have hm33 : 0 ≤ (tab0.getD (IntKind.u8.wrap (sShr .u64 (sShr .u64 a0 (32 : Int)) (8 : Int))).toNat 0) ∧ (tab0.getD (IntKind.u8.wrap (sShr .u64 (sShr .u64 a0 (32 : Int)) (8 : Int))).toNat 0) ≤ 255 := tab0_rng (IntKind.u8.wrap (sShr .u64 (sShr .u64 a0 (32 : Int)) (8 : Int))).toNat
   refine WR.batch 1 [(19, .int .i64 40), (23, .int .i64 (IntKind.i64.wrap ((tab0.getD (IntKind.u8.wrap (sShr .u64 (sShr .u64 a0 (32 : Int)) (8 : Int))).toNat 0))))] (by kernel_rfl) ?_
   have hw34 : IntKind.i64.wrap ((tab0.getD (IntKind.u8.wrap (sShr .u64 (sShr .u64 a0 (32 : Int)) (8 : Int))).toNat 0)) = ((tab0.getD (IntKind.u8.wrap (sShr .u64 (sShr .u64 a0 (32 : Int)) (8 : Int))).toNat 0)) := IntWalk.i64_in _ (by omega)
   refine WR.eqF (F' := [(19, .int .i64 40), (23, .int .i64 ((tab0.getD (IntKind.u8.wrap (sShr .u64 (sShr .u64 a0 (32 : Int)) (8 : Int))).toNat 0)))]) (by rw [hw34]) ?_
   refine WR.batch 1 [(24, .int .i64 (IntKind.i64.wrap ((40 : Int) + ((tab0.getD (IntKind.u8.wrap (sShr .u64 (sShr .u64 a0 (32 : Int)) (8 : Int))).toNat 0)))))] (by kernel_rfl) ?_
   have hw35 : IntKind.i64.wrap ((40 : Int) + ((tab0.getD (IntKind.u8.wrap (sShr .u64 (sShr .u64 a0 (32 : Int)) (8 : Int))).toNat 0))) = ((40 : Int) + ((tab0.getD (IntKind.u8.wrap (sShr .u64 (sShr .u64 a0 (32 : Int)) (8 : Int))).toNat 0))) := IntWalk.i64_in _ (by omega)
   refine WR.eqF (F' := [(24, .int .i64 ((40 : Int) + ((tab0.getD (IntKind.u8.wrap (sShr .u64 (sShr .u64 a0 (32 : Int)) (8 : Int))).toNat 0))))]) (by rw [hw35]) ?_
   refine WR.batch 1 [(2, .int .i64 ((40 : Int) + ((tab0.getD (IntKind.u8.wrap (sShr .u64 (sShr .u64 a0 (32 : Int)) (8 : Int))).toNat 0))))] (by kernel_rfl) ?_
   refine WR.fin (by kernel_rfl) ?_
   refine go hK32 ?_
   refine CW.ret ?_
   exact retV (.int .i64 ((40 : Int) + ((tab0.getD (IntKind.u8.wrap (sShr .u64 (sShr .u64 a0 (32 : Int)) (8 : Int))).toNat 0)))) (by kernel_rfl) (⟨(Chg.refl _ _), (congrArg (fun r : Int => (.int .i64 r : Value)) hs30).symm⟩)
  have hs36 := ifF ht29 hs26
  replace ht29 : ¬ ((sShr .u64 a0 (32 : Int)) ≥ (256 : Int)) := (of_decide_eq_false ht29)
  refine CW.skip ?_
  refine go hK27 ?_
  refine CW.seq fun K37 hK37 => ?_
  refine CW.region ?_
  refine WR.batch 3 [(19, .int .i64 32), (21, .int .u8 (IntKind.u8.wrap (sShr .u64 a0 (32 : Int))))] (by kernel_rfl) ?_
  refine WR.valR (dst := some 22) (v := .int .u8 (tab0.getD (IntKind.u8.wrap (sShr .u64 a0 (32 : Int))).toNat 0)) (w' := w) (run_idxS (s := tab0_s) (t := 9) (kk := .u8) (i := (IntKind.u8.wrap (sShr .u64 a0 (32 : Int)))) tab0 (by kernel_rfl) (by kernel_rfl) (by kernel_rfl) (show 0 ≤ (IntKind.u8.wrap (sShr .u64 a0 (32 : Int))) ∧ (IntKind.u8.wrap (sShr .u64 a0 (32 : Int))) ≤ 255 from (wrapU8 _)).1 (by have hh : 0 ≤ (IntKind.u8.wrap (sShr .u64 a0 (32 : Int))) ∧ (IntKind.u8.wrap (sShr .u64 a0 (32 : Int))) ≤ 255 := (wrapU8 _); rw [tab0_len]; omega) w) ?_
  have hm38 : 0 ≤ (tab0.getD (IntKind.u8.wrap (sShr .u64 a0 (32 : Int))).toNat 0) ∧ (tab0.getD (IntKind.u8.wrap (sShr .u64 a0 (32 : Int))).toNat 0) ≤ 255 := tab0_rng (IntKind.u8.wrap (sShr .u64 a0 (32 : Int))).toNat
  refine WR.batch 1 [(19, .int .i64 32), (23, .int .i64 (IntKind.i64.wrap ((tab0.getD (IntKind.u8.wrap (sShr .u64 a0 (32 : Int))).toNat 0))))] (by kernel_rfl) ?_
  have hw39 : IntKind.i64.wrap ((tab0.getD (IntKind.u8.wrap (sShr .u64 a0 (32 : Int))).toNat 0)) = ((tab0.getD (IntKind.u8.wrap (sShr .u64 a0 (32 : Int))).toNat 0)) := IntWalk.i64_in _ (by omega)
  refine WR.eqF (F' := [(19, .int .i64 32), (23, .int .i64 ((tab0.getD (IntKind.u8.wrap (sShr .u64 a0 (32 : Int))).toNat 0)))]) (by rw [hw39]) ?_
  refine WR.batch 1 [(24, .int .i64 (IntKind.i64.wrap ((32 : Int) + ((tab0.getD (IntKind.u8.wrap (sShr .u64 a0 (32 : Int))).toNat 0)))))] (by kernel_rfl) ?_
  have hw40 : IntKind.i64.wrap ((32 : Int) + ((tab0.getD (IntKind.u8.wrap (sShr .u64 a0 (32 : Int))).toNat 0))) = ((32 : Int) + ((tab0.getD (IntKind.u8.wrap (sShr .u64 a0 (32 : Int))).toNat 0))) := IntWalk.i64_in _ (by omega)
  refine WR.eqF (F' := [(24, .int .i64 ((32 : Int) + ((tab0.getD (IntKind.u8.wrap (sShr .u64 a0 (32 : Int))).toNat 0))))]) (by rw [hw40]) ?_
  refine WR.batch 1 [(2, .int .i64 ((32 : Int) + ((tab0.getD (IntKind.u8.wrap (sShr .u64 a0 (32 : Int))).toNat 0))))] (by kernel_rfl) ?_
  refine WR.fin (by kernel_rfl) ?_
  refine go hK37 ?_
  refine CW.ret ?_
  exact retV (.int .i64 ((32 : Int) + ((tab0.getD (IntKind.u8.wrap (sShr .u64 a0 (32 : Int))).toNat 0)))) (by kernel_rfl) (⟨(Chg.refl _ _), (congrArg (fun r : Int => (.int .i64 r : Value)) hs36).symm⟩)
 have hs41 := ifF ht4 hs
 replace ht4 : ¬ (a0 ≥ (4294967296 : Int)) := (of_decide_eq_false ht4)
 refine CW.skip ?_
 refine go hK2 ?_
 refine CW.seq fun K42 hK42 => ?_
 refine CW.seq fun K43 hK43 => ?_
 refine CW.region ?_
 refine WR.batch 2 [(0, .int .u64 a0), (2, .int .i64 0), (8, .bool (decide (a0 ≥ (65536 : Int))))] (by kernel_rfl) ?_
 refine WR.fin (by kernel_rfl) ?_
 refine go hK43 ?_
 refine CW.cond (decide (a0 ≥ (65536 : Int))) (by kernel_rfl) (fun ht44 => ?_) (fun ht44 => ?_)
 ·
  have hs45 := ifT ht44 hs41
  replace ht44 : a0 ≥ (65536 : Int) := (of_decide_eq_true ht44)
  refine CW.seq fun K46 hK46 => ?_
  refine CW.region ?_
  refine WR.batch 3 [(0, .int .u64 (sShr .u64 a0 (16 : Int))), (2, .int .i64 0)] (by kernel_rfl) ?_
  refine WR.fin (by kernel_rfl) ?_
  refine go hK46 ?_
  refine CW.region ?_
  refine WR.batch 3 [(0, .int .u64 (sShr .u64 a0 (16 : Int))), (2, .int .i64 16)] (by kernel_rfl) ?_
  refine WR.fin (by kernel_rfl) ?_
  refine go hK42 ?_
  refine CW.seq fun K47 hK47 => ?_
  refine CW.seq fun K48 hK48 => ?_
  refine CW.region ?_
  refine WR.batch 2 [(0, .int .u64 (sShr .u64 a0 (16 : Int))), (2, .int .i64 16), (14, .bool (decide ((sShr .u64 a0 (16 : Int)) ≥ (256 : Int))))] (by kernel_rfl) ?_
  refine WR.fin (by kernel_rfl) ?_
  refine go hK48 ?_
  refine CW.cond (decide ((sShr .u64 a0 (16 : Int)) ≥ (256 : Int))) (by kernel_rfl) (fun ht49 => ?_) (fun ht49 => ?_)
  ·
   have hs50 := ifT ht49 hs45
   replace ht49 : (sShr .u64 a0 (16 : Int)) ≥ (256 : Int) := (of_decide_eq_true ht49)
   refine CW.seq fun K51 hK51 => ?_
   refine CW.region ?_
   refine WR.batch 3 [(0, .int .u64 (sShr .u64 (sShr .u64 a0 (16 : Int)) (8 : Int))), (2, .int .i64 16)] (by kernel_rfl) ?_
   refine WR.fin (by kernel_rfl) ?_
   refine go hK51 ?_
   refine CW.region ?_
   refine WR.batch 3 [(0, .int .u64 (sShr .u64 (sShr .u64 a0 (16 : Int)) (8 : Int))), (2, .int .i64 24)] (by kernel_rfl) ?_
   refine WR.fin (by kernel_rfl) ?_
   refine go hK47 ?_
   refine CW.seq fun K52 hK52 => ?_
   refine CW.region ?_
   refine WR.batch 3 [(19, .int .i64 24), (21, .int .u8 (IntKind.u8.wrap (sShr .u64 (sShr .u64 a0 (16 : Int)) (8 : Int))))] (by kernel_rfl) ?_
   refine WR.valR (dst := some 22) (v := .int .u8 (tab0.getD (IntKind.u8.wrap (sShr .u64 (sShr .u64 a0 (16 : Int)) (8 : Int))).toNat 0)) (w' := w) (run_idxS (s := tab0_s) (t := 9) (kk := .u8) (i := (IntKind.u8.wrap (sShr .u64 (sShr .u64 a0 (16 : Int)) (8 : Int)))) tab0 (by kernel_rfl) (by kernel_rfl) (by kernel_rfl) (show 0 ≤ (IntKind.u8.wrap (sShr .u64 (sShr .u64 a0 (16 : Int)) (8 : Int))) ∧ (IntKind.u8.wrap (sShr .u64 (sShr .u64 a0 (16 : Int)) (8 : Int))) ≤ 255 from (wrapU8 _)).1 (by have hh : 0 ≤ (IntKind.u8.wrap (sShr .u64 (sShr .u64 a0 (16 : Int)) (8 : Int))) ∧ (IntKind.u8.wrap (sShr .u64 (sShr .u64 a0 (16 : Int)) (8 : Int))) ≤ 255 := (wrapU8 _); rw [tab0_len]; omega) w) ?_
   have hm53 : 0 ≤ (tab0.getD (IntKind.u8.wrap (sShr .u64 (sShr .u64 a0 (16 : Int)) (8 : Int))).toNat 0) ∧ (tab0.getD (IntKind.u8.wrap (sShr .u64 (sShr .u64 a0 (16 : Int)) (8 : Int))).toNat 0) ≤ 255 := tab0_rng (IntKind.u8.wrap (sShr .u64 (sShr .u64 a0 (16 : Int)) (8 : Int))).toNat
   refine WR.batch 1 [(19, .int .i64 24), (23, .int .i64 (IntKind.i64.wrap ((tab0.getD (IntKind.u8.wrap (sShr .u64 (sShr .u64 a0 (16 : Int)) (8 : Int))).toNat 0))))] (by kernel_rfl) ?_
   have hw54 : IntKind.i64.wrap ((tab0.getD (IntKind.u8.wrap (sShr .u64 (sShr .u64 a0 (16 : Int)) (8 : Int))).toNat 0)) = ((tab0.getD (IntKind.u8.wrap (sShr .u64 (sShr .u64 a0 (16 : Int)) (8 : Int))).toNat 0)) := IntWalk.i64_in _ (by omega)
   refine WR.eqF (F' := [(19, .int .i64 24), (23, .int .i64 ((tab0.getD (IntKind.u8.wrap (sShr .u64 (sShr .u64 a0 (16 : Int)) (8 : Int))).toNat 0)))]) (by rw [hw54]) ?_
   refine WR.batch 1 [(24, .int .i64 (IntKind.i64.wrap ((24 : Int) + ((tab0.getD (IntKind.u8.wrap (sShr .u64 (sShr .u64 a0 (16 : Int)) (8 : Int))).toNat 0)))))] (by kernel_rfl) ?_
   have hw55 : IntKind.i64.wrap ((24 : Int) + ((tab0.getD (IntKind.u8.wrap (sShr .u64 (sShr .u64 a0 (16 : Int)) (8 : Int))).toNat 0))) = ((24 : Int) + ((tab0.getD (IntKind.u8.wrap (sShr .u64 (sShr .u64 a0 (16 : Int)) (8 : Int))).toNat 0))) := IntWalk.i64_in _ (by omega)
   refine WR.eqF (F' := [(24, .int .i64 ((24 : Int) + ((tab0.getD (IntKind.u8.wrap (sShr .u64 (sShr .u64 a0 (16 : Int)) (8 : Int))).toNat 0))))]) (by rw [hw55]) ?_
   refine WR.batch 1 [(2, .int .i64 ((24 : Int) + ((tab0.getD (IntKind.u8.wrap (sShr .u64 (sShr .u64 a0 (16 : Int)) (8 : Int))).toNat 0))))] (by kernel_rfl) ?_
   refine WR.fin (by kernel_rfl) ?_
   refine go hK52 ?_
   refine CW.ret ?_
   exact retV (.int .i64 ((24 : Int) + ((tab0.getD (IntKind.u8.wrap (sShr .u64 (sShr .u64 a0 (16 : Int)) (8 : Int))).toNat 0)))) (by kernel_rfl) (⟨(Chg.refl _ _), (congrArg (fun r : Int => (.int .i64 r : Value)) hs50).symm⟩)
  have hs56 := ifF ht49 hs45
  replace ht49 : ¬ ((sShr .u64 a0 (16 : Int)) ≥ (256 : Int)) := (of_decide_eq_false ht49)
  refine CW.skip ?_
  refine go hK47 ?_
  refine CW.seq fun K57 hK57 => ?_
  refine CW.region ?_
  refine WR.batch 3 [(19, .int .i64 16), (21, .int .u8 (IntKind.u8.wrap (sShr .u64 a0 (16 : Int))))] (by kernel_rfl) ?_
  refine WR.valR (dst := some 22) (v := .int .u8 (tab0.getD (IntKind.u8.wrap (sShr .u64 a0 (16 : Int))).toNat 0)) (w' := w) (run_idxS (s := tab0_s) (t := 9) (kk := .u8) (i := (IntKind.u8.wrap (sShr .u64 a0 (16 : Int)))) tab0 (by kernel_rfl) (by kernel_rfl) (by kernel_rfl) (show 0 ≤ (IntKind.u8.wrap (sShr .u64 a0 (16 : Int))) ∧ (IntKind.u8.wrap (sShr .u64 a0 (16 : Int))) ≤ 255 from (wrapU8 _)).1 (by have hh : 0 ≤ (IntKind.u8.wrap (sShr .u64 a0 (16 : Int))) ∧ (IntKind.u8.wrap (sShr .u64 a0 (16 : Int))) ≤ 255 := (wrapU8 _); rw [tab0_len]; omega) w) ?_
  have hm58 : 0 ≤ (tab0.getD (IntKind.u8.wrap (sShr .u64 a0 (16 : Int))).toNat 0) ∧ (tab0.getD (IntKind.u8.wrap (sShr .u64 a0 (16 : Int))).toNat 0) ≤ 255 := tab0_rng (IntKind.u8.wrap (sShr .u64 a0 (16 : Int))).toNat
  refine WR.batch 1 [(19, .int .i64 16), (23, .int .i64 (IntKind.i64.wrap ((tab0.getD (IntKind.u8.wrap (sShr .u64 a0 (16 : Int))).toNat 0))))] (by kernel_rfl) ?_
  have hw59 : IntKind.i64.wrap ((tab0.getD (IntKind.u8.wrap (sShr .u64 a0 (16 : Int))).toNat 0)) = ((tab0.getD (IntKind.u8.wrap (sShr .u64 a0 (16 : Int))).toNat 0)) := IntWalk.i64_in _ (by omega)
  refine WR.eqF (F' := [(19, .int .i64 16), (23, .int .i64 ((tab0.getD (IntKind.u8.wrap (sShr .u64 a0 (16 : Int))).toNat 0)))]) (by rw [hw59]) ?_
  refine WR.batch 1 [(24, .int .i64 (IntKind.i64.wrap ((16 : Int) + ((tab0.getD (IntKind.u8.wrap (sShr .u64 a0 (16 : Int))).toNat 0)))))] (by kernel_rfl) ?_
  have hw60 : IntKind.i64.wrap ((16 : Int) + ((tab0.getD (IntKind.u8.wrap (sShr .u64 a0 (16 : Int))).toNat 0))) = ((16 : Int) + ((tab0.getD (IntKind.u8.wrap (sShr .u64 a0 (16 : Int))).toNat 0))) := IntWalk.i64_in _ (by omega)
  refine WR.eqF (F' := [(24, .int .i64 ((16 : Int) + ((tab0.getD (IntKind.u8.wrap (sShr .u64 a0 (16 : Int))).toNat 0))))]) (by rw [hw60]) ?_
  refine WR.batch 1 [(2, .int .i64 ((16 : Int) + ((tab0.getD (IntKind.u8.wrap (sShr .u64 a0 (16 : Int))).toNat 0))))] (by kernel_rfl) ?_
  refine WR.fin (by kernel_rfl) ?_
  refine go hK57 ?_
  refine CW.ret ?_
  exact retV (.int .i64 ((16 : Int) + ((tab0.getD (IntKind.u8.wrap (sShr .u64 a0 (16 : Int))).toNat 0)))) (by kernel_rfl) (⟨(Chg.refl _ _), (congrArg (fun r : Int => (.int .i64 r : Value)) hs56).symm⟩)
 have hs61 := ifF ht44 hs41
 replace ht44 : ¬ (a0 ≥ (65536 : Int)) := (of_decide_eq_false ht44)
 refine CW.skip ?_
 refine go hK42 ?_
 refine CW.seq fun K62 hK62 => ?_
 refine CW.seq fun K63 hK63 => ?_
 refine CW.region ?_
 refine WR.batch 2 [(0, .int .u64 a0), (2, .int .i64 0), (14, .bool (decide (a0 ≥ (256 : Int))))] (by kernel_rfl) ?_
 refine WR.fin (by kernel_rfl) ?_
 refine go hK63 ?_
 refine CW.cond (decide (a0 ≥ (256 : Int))) (by kernel_rfl) (fun ht64 => ?_) (fun ht64 => ?_)
 ·
  have hs65 := ifT ht64 hs61
  replace ht64 : a0 ≥ (256 : Int) := (of_decide_eq_true ht64)
  refine CW.seq fun K66 hK66 => ?_
  refine CW.region ?_
  refine WR.batch 3 [(0, .int .u64 (sShr .u64 a0 (8 : Int))), (2, .int .i64 0)] (by kernel_rfl) ?_
  refine WR.fin (by kernel_rfl) ?_
  refine go hK66 ?_
  refine CW.region ?_
  refine WR.batch 3 [(0, .int .u64 (sShr .u64 a0 (8 : Int))), (2, .int .i64 8)] (by kernel_rfl) ?_
  refine WR.fin (by kernel_rfl) ?_
  refine go hK62 ?_
  refine CW.seq fun K67 hK67 => ?_
  refine CW.region ?_
  refine WR.batch 3 [(19, .int .i64 8), (21, .int .u8 (IntKind.u8.wrap (sShr .u64 a0 (8 : Int))))] (by kernel_rfl) ?_
  refine WR.valR (dst := some 22) (v := .int .u8 (tab0.getD (IntKind.u8.wrap (sShr .u64 a0 (8 : Int))).toNat 0)) (w' := w) (run_idxS (s := tab0_s) (t := 9) (kk := .u8) (i := (IntKind.u8.wrap (sShr .u64 a0 (8 : Int)))) tab0 (by kernel_rfl) (by kernel_rfl) (by kernel_rfl) (show 0 ≤ (IntKind.u8.wrap (sShr .u64 a0 (8 : Int))) ∧ (IntKind.u8.wrap (sShr .u64 a0 (8 : Int))) ≤ 255 from (wrapU8 _)).1 (by have hh : 0 ≤ (IntKind.u8.wrap (sShr .u64 a0 (8 : Int))) ∧ (IntKind.u8.wrap (sShr .u64 a0 (8 : Int))) ≤ 255 := (wrapU8 _); rw [tab0_len]; omega) w) ?_
  have hm68 : 0 ≤ (tab0.getD (IntKind.u8.wrap (sShr .u64 a0 (8 : Int))).toNat 0) ∧ (tab0.getD (IntKind.u8.wrap (sShr .u64 a0 (8 : Int))).toNat 0) ≤ 255 := tab0_rng (IntKind.u8.wrap (sShr .u64 a0 (8 : Int))).toNat
  refine WR.batch 1 [(19, .int .i64 8), (23, .int .i64 (IntKind.i64.wrap ((tab0.getD (IntKind.u8.wrap (sShr .u64 a0 (8 : Int))).toNat 0))))] (by kernel_rfl) ?_
  have hw69 : IntKind.i64.wrap ((tab0.getD (IntKind.u8.wrap (sShr .u64 a0 (8 : Int))).toNat 0)) = ((tab0.getD (IntKind.u8.wrap (sShr .u64 a0 (8 : Int))).toNat 0)) := IntWalk.i64_in _ (by omega)
  refine WR.eqF (F' := [(19, .int .i64 8), (23, .int .i64 ((tab0.getD (IntKind.u8.wrap (sShr .u64 a0 (8 : Int))).toNat 0)))]) (by rw [hw69]) ?_
  refine WR.batch 1 [(24, .int .i64 (IntKind.i64.wrap ((8 : Int) + ((tab0.getD (IntKind.u8.wrap (sShr .u64 a0 (8 : Int))).toNat 0)))))] (by kernel_rfl) ?_
  have hw70 : IntKind.i64.wrap ((8 : Int) + ((tab0.getD (IntKind.u8.wrap (sShr .u64 a0 (8 : Int))).toNat 0))) = ((8 : Int) + ((tab0.getD (IntKind.u8.wrap (sShr .u64 a0 (8 : Int))).toNat 0))) := IntWalk.i64_in _ (by omega)
  refine WR.eqF (F' := [(24, .int .i64 ((8 : Int) + ((tab0.getD (IntKind.u8.wrap (sShr .u64 a0 (8 : Int))).toNat 0))))]) (by rw [hw70]) ?_
  refine WR.batch 1 [(2, .int .i64 ((8 : Int) + ((tab0.getD (IntKind.u8.wrap (sShr .u64 a0 (8 : Int))).toNat 0))))] (by kernel_rfl) ?_
  refine WR.fin (by kernel_rfl) ?_
  refine go hK67 ?_
  refine CW.ret ?_
  exact retV (.int .i64 ((8 : Int) + ((tab0.getD (IntKind.u8.wrap (sShr .u64 a0 (8 : Int))).toNat 0)))) (by kernel_rfl) (⟨(Chg.refl _ _), (congrArg (fun r : Int => (.int .i64 r : Value)) hs65).symm⟩)
 have hs71 := ifF ht64 hs61
 replace ht64 : ¬ (a0 ≥ (256 : Int)) := (of_decide_eq_false ht64)
 refine CW.skip ?_
 refine go hK62 ?_
 refine CW.seq fun K72 hK72 => ?_
 refine CW.region ?_
 refine WR.batch 3 [(19, .int .i64 0), (21, .int .u8 (IntKind.u8.wrap a0))] (by kernel_rfl) ?_
 refine WR.valR (dst := some 22) (v := .int .u8 (tab0.getD (IntKind.u8.wrap a0).toNat 0)) (w' := w) (run_idxS (s := tab0_s) (t := 9) (kk := .u8) (i := (IntKind.u8.wrap a0)) tab0 (by kernel_rfl) (by kernel_rfl) (by kernel_rfl) (show 0 ≤ (IntKind.u8.wrap a0) ∧ (IntKind.u8.wrap a0) ≤ 255 from (wrapU8 _)).1 (by have hh : 0 ≤ (IntKind.u8.wrap a0) ∧ (IntKind.u8.wrap a0) ≤ 255 := (wrapU8 _); rw [tab0_len]; omega) w) ?_
 have hm73 : 0 ≤ (tab0.getD (IntKind.u8.wrap a0).toNat 0) ∧ (tab0.getD (IntKind.u8.wrap a0).toNat 0) ≤ 255 := tab0_rng (IntKind.u8.wrap a0).toNat
 refine WR.batch 1 [(19, .int .i64 0), (23, .int .i64 (IntKind.i64.wrap ((tab0.getD (IntKind.u8.wrap a0).toNat 0))))] (by kernel_rfl) ?_
 have hw74 : IntKind.i64.wrap ((tab0.getD (IntKind.u8.wrap a0).toNat 0)) = ((tab0.getD (IntKind.u8.wrap a0).toNat 0)) := IntWalk.i64_in _ (by omega)
 refine WR.eqF (F' := [(19, .int .i64 0), (23, .int .i64 ((tab0.getD (IntKind.u8.wrap a0).toNat 0)))]) (by rw [hw74]) ?_
 refine WR.batch 1 [(24, .int .i64 (IntKind.i64.wrap ((0 : Int) + ((tab0.getD (IntKind.u8.wrap a0).toNat 0)))))] (by kernel_rfl) ?_
 have hw75 : IntKind.i64.wrap ((0 : Int) + ((tab0.getD (IntKind.u8.wrap a0).toNat 0))) = ((0 : Int) + ((tab0.getD (IntKind.u8.wrap a0).toNat 0))) := IntWalk.i64_in _ (by omega)
 refine WR.eqF (F' := [(24, .int .i64 ((0 : Int) + ((tab0.getD (IntKind.u8.wrap a0).toNat 0))))]) (by rw [hw75]) ?_
 refine WR.batch 1 [(2, .int .i64 ((0 : Int) + ((tab0.getD (IntKind.u8.wrap a0).toNat 0))))] (by kernel_rfl) ?_
 refine WR.fin (by kernel_rfl) ?_
 refine go hK72 ?_
 refine CW.ret ?_
 exact retV (.int .i64 ((0 : Int) + ((tab0.getD (IntKind.u8.wrap a0).toNat 0)))) (by kernel_rfl) (⟨(Chg.refl _ _), (congrArg (fun r : Int => (.int .i64 r : Value)) hs71).symm⟩)

def Mul64 (a0 : Int) (a1 : Int)  : (Int × Int) := ((IntKind.u64.wrap ((IntKind.u64.wrap ((IntKind.u64.wrap ((sShr .u64 a0 (32 : Int)) * (sShr .u64 a1 (32 : Int)))) + (sShr .u64 (IntKind.u64.wrap ((IntKind.u64.wrap ((sShr .u64 a0 (32 : Int)) * (bAnd .u64 a1 (4294967295 : Int)))) + (sShr .u64 (IntKind.u64.wrap ((bAnd .u64 a0 (4294967295 : Int)) * (bAnd .u64 a1 (4294967295 : Int)))) (32 : Int)))) (32 : Int)))) + (sShr .u64 (IntKind.u64.wrap ((bAnd .u64 (IntKind.u64.wrap ((IntKind.u64.wrap ((sShr .u64 a0 (32 : Int)) * (bAnd .u64 a1 (4294967295 : Int)))) + (sShr .u64 (IntKind.u64.wrap ((bAnd .u64 a0 (4294967295 : Int)) * (bAnd .u64 a1 (4294967295 : Int)))) (32 : Int)))) (4294967295 : Int)) + (IntKind.u64.wrap ((bAnd .u64 a0 (4294967295 : Int)) * (sShr .u64 a1 (32 : Int)))))) (32 : Int)))), (IntKind.u64.wrap (a0 * a1)))

theorem Mul64_ok (a0 : Int) (a1 : Int)  (_h_a0 : (0 ≤ a0 ∧ a0 ≤ 18446744073709551615)) (_h_a1 : (0 ≤ a1 ∧ a1 ≤ 18446744073709551615))  : (0 ≤ (Mul64 a0 a1).1 ∧ (Mul64 a0 a1).1 ≤ 18446744073709551615) ∧ (0 ≤ (Mul64 a0 a1).2 ∧ (Mul64 a0 a1).2 ≤ 18446744073709551615) := by
 rw [Mul64.eq_1]
 exact (by exact (show (0 ≤ (IntKind.u64.wrap ((IntKind.u64.wrap ((IntKind.u64.wrap ((sShr .u64 a0 (32 : Int)) * (sShr .u64 a1 (32 : Int)))) + (sShr .u64 (IntKind.u64.wrap ((IntKind.u64.wrap ((sShr .u64 a0 (32 : Int)) * (bAnd .u64 a1 (4294967295 : Int)))) + (sShr .u64 (IntKind.u64.wrap ((bAnd .u64 a0 (4294967295 : Int)) * (bAnd .u64 a1 (4294967295 : Int)))) (32 : Int)))) (32 : Int)))) + (sShr .u64 (IntKind.u64.wrap ((bAnd .u64 (IntKind.u64.wrap ((IntKind.u64.wrap ((sShr .u64 a0 (32 : Int)) * (bAnd .u64 a1 (4294967295 : Int)))) + (sShr .u64 (IntKind.u64.wrap ((bAnd .u64 a0 (4294967295 : Int)) * (bAnd .u64 a1 (4294967295 : Int)))) (32 : Int)))) (4294967295 : Int)) + (IntKind.u64.wrap ((bAnd .u64 a0 (4294967295 : Int)) * (sShr .u64 a1 (32 : Int)))))) (32 : Int)))) ∧ (IntKind.u64.wrap ((IntKind.u64.wrap ((IntKind.u64.wrap ((sShr .u64 a0 (32 : Int)) * (sShr .u64 a1 (32 : Int)))) + (sShr .u64 (IntKind.u64.wrap ((IntKind.u64.wrap ((sShr .u64 a0 (32 : Int)) * (bAnd .u64 a1 (4294967295 : Int)))) + (sShr .u64 (IntKind.u64.wrap ((bAnd .u64 a0 (4294967295 : Int)) * (bAnd .u64 a1 (4294967295 : Int)))) (32 : Int)))) (32 : Int)))) + (sShr .u64 (IntKind.u64.wrap ((bAnd .u64 (IntKind.u64.wrap ((IntKind.u64.wrap ((sShr .u64 a0 (32 : Int)) * (bAnd .u64 a1 (4294967295 : Int)))) + (sShr .u64 (IntKind.u64.wrap ((bAnd .u64 a0 (4294967295 : Int)) * (bAnd .u64 a1 (4294967295 : Int)))) (32 : Int)))) (4294967295 : Int)) + (IntKind.u64.wrap ((bAnd .u64 a0 (4294967295 : Int)) * (sShr .u64 a1 (32 : Int)))))) (32 : Int)))) ≤ 18446744073709551615) ∧ (0 ≤ (IntKind.u64.wrap (a0 * a1)) ∧ (IntKind.u64.wrap (a0 * a1)) ≤ 18446744073709551615) from ⟨(wrapU64 _), (wrapU64 _)⟩))

theorem Mul64_any (a0 : Int) (a1 : Int)   (w : World)  (_h_a0 : (0 ≤ a0 ∧ a0 ≤ 18446744073709551615)) (_h_a1 : (0 ≤ a1 ∧ a1 ≤ 18446744073709551615))  : Calls Try.prog 128 #[.int .u64 a0, .int .u64 a1] w (RetV w (.tuple #[.int .u64 (Mul64 a0 a1).1, .int .u64 (Mul64 a0 a1).2])) := by
 have hs := Mul64.eq_1 a0 a1
 refine calls_of_CW Try.func128 rfl (n := 51) Try.ntmps128 (by kernel_rfl) [0, 1] (F := [(0, .int .u64 a0), (1, .int .u64 a1)]) (by kernel_rfl) ?_
 refine CW.seq fun K1 hK1 => ?_
 refine CW.region ?_
 refine WR.batch 2 [(0, .int .u64 a0), (1, .int .u64 a1)] (by kernel_rfl) ?_
 refine WR.fin (by kernel_rfl) ?_
 refine go hK1 ?_
 refine CW.seq fun K2 hK2 => ?_
 refine CW.region ?_
 refine WR.batch 3 [(0, .int .u64 a0), (1, .int .u64 a1), (6, .int .u64 (bAnd .u64 a0 (4294967295 : Int)))] (by kernel_rfl) ?_
 refine WR.fin (by kernel_rfl) ?_
 refine go hK2 ?_
 refine CW.seq fun K3 hK3 => ?_
 refine CW.region ?_
 refine WR.batch 3 [(0, .int .u64 a0), (1, .int .u64 a1), (6, .int .u64 (bAnd .u64 a0 (4294967295 : Int))), (7, .int .u64 (sShr .u64 a0 (32 : Int)))] (by kernel_rfl) ?_
 refine WR.fin (by kernel_rfl) ?_
 refine go hK3 ?_
 refine CW.seq fun K4 hK4 => ?_
 refine CW.region ?_
 refine WR.batch 3 [(0, .int .u64 a0), (1, .int .u64 a1), (6, .int .u64 (bAnd .u64 a0 (4294967295 : Int))), (7, .int .u64 (sShr .u64 a0 (32 : Int))), (8, .int .u64 (bAnd .u64 a1 (4294967295 : Int)))] (by kernel_rfl) ?_
 refine WR.fin (by kernel_rfl) ?_
 refine go hK4 ?_
 refine CW.seq fun K5 hK5 => ?_
 refine CW.region ?_
 refine WR.batch 3 [(0, .int .u64 a0), (1, .int .u64 a1), (6, .int .u64 (bAnd .u64 a0 (4294967295 : Int))), (7, .int .u64 (sShr .u64 a0 (32 : Int))), (8, .int .u64 (bAnd .u64 a1 (4294967295 : Int))), (9, .int .u64 (sShr .u64 a1 (32 : Int)))] (by kernel_rfl) ?_
 refine WR.fin (by kernel_rfl) ?_
 refine go hK5 ?_
 refine CW.seq fun K6 hK6 => ?_
 refine CW.region ?_
 refine WR.batch 4 [(0, .int .u64 a0), (1, .int .u64 a1), (6, .int .u64 (bAnd .u64 a0 (4294967295 : Int))), (7, .int .u64 (sShr .u64 a0 (32 : Int))), (8, .int .u64 (bAnd .u64 a1 (4294967295 : Int))), (9, .int .u64 (sShr .u64 a1 (32 : Int))), (10, .int .u64 (IntKind.u64.wrap ((bAnd .u64 a0 (4294967295 : Int)) * (bAnd .u64 a1 (4294967295 : Int)))))] (by kernel_rfl) ?_
 refine WR.fin (by kernel_rfl) ?_
 refine go hK6 ?_
 refine CW.seq fun K7 hK7 => ?_
 refine CW.region ?_
 refine WR.batch 7 [(0, .int .u64 a0), (1, .int .u64 a1), (6, .int .u64 (bAnd .u64 a0 (4294967295 : Int))), (7, .int .u64 (sShr .u64 a0 (32 : Int))), (9, .int .u64 (sShr .u64 a1 (32 : Int))), (11, .int .u64 (IntKind.u64.wrap ((IntKind.u64.wrap ((sShr .u64 a0 (32 : Int)) * (bAnd .u64 a1 (4294967295 : Int)))) + (sShr .u64 (IntKind.u64.wrap ((bAnd .u64 a0 (4294967295 : Int)) * (bAnd .u64 a1 (4294967295 : Int)))) (32 : Int)))))] (by kernel_rfl) ?_
 refine WR.fin (by kernel_rfl) ?_
 refine go hK7 ?_
 refine CW.seq fun K8 hK8 => ?_
 refine CW.region ?_
 refine WR.batch 3 [(0, .int .u64 a0), (1, .int .u64 a1), (6, .int .u64 (bAnd .u64 a0 (4294967295 : Int))), (7, .int .u64 (sShr .u64 a0 (32 : Int))), (9, .int .u64 (sShr .u64 a1 (32 : Int))), (11, .int .u64 (IntKind.u64.wrap ((IntKind.u64.wrap ((sShr .u64 a0 (32 : Int)) * (bAnd .u64 a1 (4294967295 : Int)))) + (sShr .u64 (IntKind.u64.wrap ((bAnd .u64 a0 (4294967295 : Int)) * (bAnd .u64 a1 (4294967295 : Int)))) (32 : Int))))), (12, .int .u64 (bAnd .u64 (IntKind.u64.wrap ((IntKind.u64.wrap ((sShr .u64 a0 (32 : Int)) * (bAnd .u64 a1 (4294967295 : Int)))) + (sShr .u64 (IntKind.u64.wrap ((bAnd .u64 a0 (4294967295 : Int)) * (bAnd .u64 a1 (4294967295 : Int)))) (32 : Int)))) (4294967295 : Int)))] (by kernel_rfl) ?_
 refine WR.fin (by kernel_rfl) ?_
 refine go hK8 ?_
 refine CW.seq fun K9 hK9 => ?_
 refine CW.region ?_
 refine WR.batch 3 [(0, .int .u64 a0), (1, .int .u64 a1), (6, .int .u64 (bAnd .u64 a0 (4294967295 : Int))), (7, .int .u64 (sShr .u64 a0 (32 : Int))), (9, .int .u64 (sShr .u64 a1 (32 : Int))), (12, .int .u64 (bAnd .u64 (IntKind.u64.wrap ((IntKind.u64.wrap ((sShr .u64 a0 (32 : Int)) * (bAnd .u64 a1 (4294967295 : Int)))) + (sShr .u64 (IntKind.u64.wrap ((bAnd .u64 a0 (4294967295 : Int)) * (bAnd .u64 a1 (4294967295 : Int)))) (32 : Int)))) (4294967295 : Int))), (13, .int .u64 (sShr .u64 (IntKind.u64.wrap ((IntKind.u64.wrap ((sShr .u64 a0 (32 : Int)) * (bAnd .u64 a1 (4294967295 : Int)))) + (sShr .u64 (IntKind.u64.wrap ((bAnd .u64 a0 (4294967295 : Int)) * (bAnd .u64 a1 (4294967295 : Int)))) (32 : Int)))) (32 : Int)))] (by kernel_rfl) ?_
 refine WR.fin (by kernel_rfl) ?_
 refine go hK9 ?_
 refine CW.seq fun K10 hK10 => ?_
 refine CW.region ?_
 refine WR.batch 6 [(0, .int .u64 a0), (1, .int .u64 a1), (7, .int .u64 (sShr .u64 a0 (32 : Int))), (9, .int .u64 (sShr .u64 a1 (32 : Int))), (12, .int .u64 (IntKind.u64.wrap ((bAnd .u64 (IntKind.u64.wrap ((IntKind.u64.wrap ((sShr .u64 a0 (32 : Int)) * (bAnd .u64 a1 (4294967295 : Int)))) + (sShr .u64 (IntKind.u64.wrap ((bAnd .u64 a0 (4294967295 : Int)) * (bAnd .u64 a1 (4294967295 : Int)))) (32 : Int)))) (4294967295 : Int)) + (IntKind.u64.wrap ((bAnd .u64 a0 (4294967295 : Int)) * (sShr .u64 a1 (32 : Int))))))), (13, .int .u64 (sShr .u64 (IntKind.u64.wrap ((IntKind.u64.wrap ((sShr .u64 a0 (32 : Int)) * (bAnd .u64 a1 (4294967295 : Int)))) + (sShr .u64 (IntKind.u64.wrap ((bAnd .u64 a0 (4294967295 : Int)) * (bAnd .u64 a1 (4294967295 : Int)))) (32 : Int)))) (32 : Int)))] (by kernel_rfl) ?_
 refine WR.fin (by kernel_rfl) ?_
 refine go hK10 ?_
 refine CW.seq fun K11 hK11 => ?_
 refine CW.region ?_
 refine WR.batch 9 [(0, .int .u64 a0), (1, .int .u64 a1), (4, .int .u64 (IntKind.u64.wrap ((IntKind.u64.wrap ((IntKind.u64.wrap ((sShr .u64 a0 (32 : Int)) * (sShr .u64 a1 (32 : Int)))) + (sShr .u64 (IntKind.u64.wrap ((IntKind.u64.wrap ((sShr .u64 a0 (32 : Int)) * (bAnd .u64 a1 (4294967295 : Int)))) + (sShr .u64 (IntKind.u64.wrap ((bAnd .u64 a0 (4294967295 : Int)) * (bAnd .u64 a1 (4294967295 : Int)))) (32 : Int)))) (32 : Int)))) + (sShr .u64 (IntKind.u64.wrap ((bAnd .u64 (IntKind.u64.wrap ((IntKind.u64.wrap ((sShr .u64 a0 (32 : Int)) * (bAnd .u64 a1 (4294967295 : Int)))) + (sShr .u64 (IntKind.u64.wrap ((bAnd .u64 a0 (4294967295 : Int)) * (bAnd .u64 a1 (4294967295 : Int)))) (32 : Int)))) (4294967295 : Int)) + (IntKind.u64.wrap ((bAnd .u64 a0 (4294967295 : Int)) * (sShr .u64 a1 (32 : Int)))))) (32 : Int)))))] (by kernel_rfl) ?_
 refine WR.fin (by kernel_rfl) ?_
 refine go hK11 ?_
 refine CW.seq fun K12 hK12 => ?_
 refine CW.region ?_
 refine WR.batch 4 [(4, .int .u64 (IntKind.u64.wrap ((IntKind.u64.wrap ((IntKind.u64.wrap ((sShr .u64 a0 (32 : Int)) * (sShr .u64 a1 (32 : Int)))) + (sShr .u64 (IntKind.u64.wrap ((IntKind.u64.wrap ((sShr .u64 a0 (32 : Int)) * (bAnd .u64 a1 (4294967295 : Int)))) + (sShr .u64 (IntKind.u64.wrap ((bAnd .u64 a0 (4294967295 : Int)) * (bAnd .u64 a1 (4294967295 : Int)))) (32 : Int)))) (32 : Int)))) + (sShr .u64 (IntKind.u64.wrap ((bAnd .u64 (IntKind.u64.wrap ((IntKind.u64.wrap ((sShr .u64 a0 (32 : Int)) * (bAnd .u64 a1 (4294967295 : Int)))) + (sShr .u64 (IntKind.u64.wrap ((bAnd .u64 a0 (4294967295 : Int)) * (bAnd .u64 a1 (4294967295 : Int)))) (32 : Int)))) (4294967295 : Int)) + (IntKind.u64.wrap ((bAnd .u64 a0 (4294967295 : Int)) * (sShr .u64 a1 (32 : Int)))))) (32 : Int))))), (5, .int .u64 (IntKind.u64.wrap (a0 * a1)))] (by kernel_rfl) ?_
 refine WR.fin (by kernel_rfl) ?_
 refine go hK12 ?_
 refine CW.ret ?_
 exact retV (.tuple #[.int .u64 (IntKind.u64.wrap ((IntKind.u64.wrap ((IntKind.u64.wrap ((sShr .u64 a0 (32 : Int)) * (sShr .u64 a1 (32 : Int)))) + (sShr .u64 (IntKind.u64.wrap ((IntKind.u64.wrap ((sShr .u64 a0 (32 : Int)) * (bAnd .u64 a1 (4294967295 : Int)))) + (sShr .u64 (IntKind.u64.wrap ((bAnd .u64 a0 (4294967295 : Int)) * (bAnd .u64 a1 (4294967295 : Int)))) (32 : Int)))) (32 : Int)))) + (sShr .u64 (IntKind.u64.wrap ((bAnd .u64 (IntKind.u64.wrap ((IntKind.u64.wrap ((sShr .u64 a0 (32 : Int)) * (bAnd .u64 a1 (4294967295 : Int)))) + (sShr .u64 (IntKind.u64.wrap ((bAnd .u64 a0 (4294967295 : Int)) * (bAnd .u64 a1 (4294967295 : Int)))) (32 : Int)))) (4294967295 : Int)) + (IntKind.u64.wrap ((bAnd .u64 a0 (4294967295 : Int)) * (sShr .u64 a1 (32 : Int)))))) (32 : Int)))), .int .u64 (IntKind.u64.wrap (a0 * a1))]) (by kernel_rfl) (⟨(Chg.refl _ _), (congrArg (fun r : (Int × Int) => (.tuple #[.int .u64 r.1, .int .u64 r.2] : Value)) hs).symm⟩)

theorem Len64_nn (a0 : Int) (h : 0 ≤ a0 ∧ a0 ≤ 18446744073709551615) : 0 ≤ Len64 a0 ∧ Len64 a0 ≤ 1000 := by
  unfold Len64
  have key := fun j => tab0_rng j
  repeat' split
  all_goals (first | (have := key (IntKind.u8.wrap a0).toNat; omega) | skip)
  all_goals (first | (have := key (IntKind.u8.wrap (sShr .u64 a0 8)).toNat; omega) | (have := key (IntKind.u8.wrap (sShr .u64 a0 16)).toNat; omega) | (have := key (IntKind.u8.wrap (sShr .u64 a0 32)).toNat; omega) | (have := key (IntKind.u8.wrap (sShr .u64 (sShr .u64 a0 16) 8)).toNat; omega) | (have := key (IntKind.u8.wrap (sShr .u64 (sShr .u64 a0 32) 8)).toNat; omega) | (have := key (IntKind.u8.wrap (sShr .u64 (sShr .u64 a0 32) 16)).toNat; omega) | (have := key (IntKind.u8.wrap (sShr .u64 (sShr .u64 (sShr .u64 a0 32) 16) 8)).toNat; omega))

def span_fill (a0 : Int)  : Int := (letF (Len64 a0) fun x3 => (IntKind.u64.wrap ((sShl .u64 (1 : Int) x3) - (1 : Int))))

theorem span_fill_ok (a0 : Int)  (_h_a0 : (0 ≤ a0 ∧ a0 ≤ 18446744073709551615))  : (0 ≤ (span_fill a0) ∧ (span_fill a0) ≤ 18446744073709551615) := by
 rw [span_fill.eq_1]
 refine letR (p := fun r : Int => (0 ≤ r ∧ r ≤ 18446744073709551615)) fun x3 hx4 => ?_
 have hxx3_ : 0 ≤ x3 ∧ x3 ≤ 1000 := by rw [← hx4]; exact Len64_nn a0 (by omega)
 have hx5 : (-9223372036854775808 ≤ x3 ∧ x3 ≤ 9223372036854775807) := by rw [← hx4]; exact Len64_ok a0 (by omega) 
 exact (by exact (show (0 ≤ (IntKind.u64.wrap ((sShl .u64 (1 : Int) x3) - (1 : Int))) ∧ (IntKind.u64.wrap ((sShl .u64 (1 : Int) x3) - (1 : Int))) ≤ 18446744073709551615) from (wrapU64 _)))

theorem span_fill_any (a0 : Int)   (w : World)  (_h_a0 : (0 ≤ a0 ∧ a0 ≤ 18446744073709551615))  : Calls Try.prog 130 #[.int .u64 a0] w (RetV w (.int .u64 (span_fill a0))) := by
 have hs := span_fill.eq_1 a0
 refine calls_of_CW Try.func130 rfl (n := 7) Try.ntmps130 (by kernel_rfl) [0] (F := [(0, .int .u64 a0)]) (by kernel_rfl) ?_
 refine CW.seq fun K1 hK1 => ?_
 refine CW.region ?_
 refine WR.batch 1 [(0, .int .u64 a0)] (by kernel_rfl) ?_
 refine WR.fin (by kernel_rfl) ?_
 refine go hK1 ?_
 refine CW.seq fun K2 hK2 => ?_
 refine CW.region ?_
 refine WR.batch 1 [(3, .int .u64 a0)] (by kernel_rfl) ?_
 obtain ⟨x3, hx4⟩ : ∃ x, Len64 a0 = x := ⟨_, rfl⟩
 have hs6 := letS hx4 hs
 have hxx3_ : 0 ≤ x3 ∧ x3 ≤ 1000 := by rw [← hx4]; exact Len64_nn a0 (by omega)
 have hx7 : (-9223372036854775808 ≤ x3 ∧ x3 ≤ 9223372036854775807) := by rw [← hx4]; exact Len64_ok a0 (by omega) 
 refine WR.call (dst := some 4) (by kernel_rfl) (retE (g := fun r : Int => (.int .i64 r : Value)) hx4 (Len64_any a0 w  (by omega) )) ?_
 rintro _ w8 hc9 rfl
 have hz11 := hc9.size
 have hC10 := (Chg.refl [] w).pure hc9
 refine WR.valR (dst := some 5) (v := .int .u64 (sShl .u64 (1 : Int) x3)) (w' := w8) (run_shl (kk := .u64) (k' := .i64) (x := (1 : Int)) (y := x3) (by kernel_rfl) (by omega) w8) ?_
 refine WR.batch 2 [(2, .int .u64 (IntKind.u64.wrap ((sShl .u64 (1 : Int) x3) - (1 : Int))))] (by kernel_rfl) ?_
 refine WR.fin (by kernel_rfl) ?_
 refine go hK2 ?_
 refine CW.ret ?_
 exact retV (.int .u64 (IntKind.u64.wrap ((sShl .u64 (1 : Int) x3) - (1 : Int)))) (by kernel_rfl) (⟨hC10, (congrArg (fun r : Int => (.int .u64 r : Value)) hs6).symm⟩)

def span_work_or (a0 : Twork)  : TSpan := (letF (span_work_both a0) fun x26 => (if x26 then (letF (span_Of (bOr .u64 a0.a.Lo a0.b.Lo)) fun x38 => x38) else (⟨(gMax a0.a.Lo a0.b.Lo), (span_fill (bOr .u64 a0.a.Hi a0.b.Hi))⟩ : TSpan)))

theorem span_work_or_ok (a0 : Twork)  (_h_a0 : (0 ≤ a0.a.Lo ∧ a0.a.Lo ≤ 18446744073709551615) ∧ (0 ≤ a0.a.Hi ∧ a0.a.Hi ≤ 18446744073709551615) ∧ (0 ≤ a0.b.Lo ∧ a0.b.Lo ≤ 18446744073709551615) ∧ (0 ≤ a0.b.Hi ∧ a0.b.Hi ≤ 18446744073709551615) ∧ (0 ≤ a0.most ∧ a0.most ≤ 18446744073709551615) ∧ (0 ≤ a0.size ∧ a0.size ≤ 18446744073709551615))  : (0 ≤ (span_work_or a0).Lo ∧ (span_work_or a0).Lo ≤ 18446744073709551615) ∧ (0 ≤ (span_work_or a0).Hi ∧ (span_work_or a0).Hi ≤ 18446744073709551615) := by
 rw [span_work_or.eq_1]
 refine letR (p := fun r : TSpan => (0 ≤ r.Lo ∧ r.Lo ≤ 18446744073709551615) ∧ (0 ≤ r.Hi ∧ r.Hi ≤ 18446744073709551615)) fun x26 _ => ?_
 refine iteR (p := fun r : TSpan => (0 ≤ r.Lo ∧ r.Lo ≤ 18446744073709551615) ∧ (0 ≤ r.Hi ∧ r.Hi ≤ 18446744073709551615)) (fun hi1001 => ?_) (fun hi1001 => ?_)
 ·
  refine letR (p := fun r : TSpan => (0 ≤ r.Lo ∧ r.Lo ≤ 18446744073709551615) ∧ (0 ≤ r.Hi ∧ r.Hi ≤ 18446744073709551615)) fun x38 hx39 => ?_
  have hx40 : (0 ≤ x38.Lo ∧ x38.Lo ≤ 18446744073709551615) ∧ (0 ≤ x38.Hi ∧ x38.Hi ≤ 18446744073709551615) := by rw [← hx39]; exact span_Of_ok (bOr .u64 a0.a.Lo a0.b.Lo) (wrapU64 _) 
  exact (by exact (show (0 ≤ x38.Lo ∧ x38.Lo ≤ 18446744073709551615) ∧ (0 ≤ x38.Hi ∧ x38.Hi ≤ 18446744073709551615) from ⟨(by omega), (by omega)⟩))
 exact (by have : (0 ≤ (span_fill (bOr .u64 a0.a.Hi a0.b.Hi)) ∧ (span_fill (bOr .u64 a0.a.Hi a0.b.Hi)) ≤ 18446744073709551615) := span_fill_ok (bOr .u64 a0.a.Hi a0.b.Hi) (wrapU64 _) ; exact (show (0 ≤ (gMax a0.a.Lo a0.b.Lo) ∧ (gMax a0.a.Lo a0.b.Lo) ≤ 18446744073709551615) ∧ (0 ≤ (span_fill (bOr .u64 a0.a.Hi a0.b.Hi)) ∧ (span_fill (bOr .u64 a0.a.Hi a0.b.Hi)) ≤ 18446744073709551615) from ⟨(gMax_rng (by omega) (by omega)), (by omega)⟩))

set_option maxHeartbeats 4000000 in
theorem span_work_or_any (a0 : Twork)   (w : World)  (_h_a0 : (0 ≤ a0.a.Lo ∧ a0.a.Lo ≤ 18446744073709551615) ∧ (0 ≤ a0.a.Hi ∧ a0.a.Hi ≤ 18446744073709551615) ∧ (0 ≤ a0.b.Lo ∧ a0.b.Lo ≤ 18446744073709551615) ∧ (0 ≤ a0.b.Hi ∧ a0.b.Hi ≤ 18446744073709551615) ∧ (0 ≤ a0.most ∧ a0.most ≤ 18446744073709551615) ∧ (0 ≤ a0.size ∧ a0.size ≤ 18446744073709551615))  : Calls Try.prog 82 #[.agg #[.int .u64 a0.a.Lo, .int .u64 a0.a.Hi, .int .u64 a0.b.Lo, .int .u64 a0.b.Hi, .bool a0.narrow, .int .u64 a0.most, .int .u64 a0.size]] w (RetV w (.agg #[.int .u64 (span_work_or a0).Lo, .int .u64 (span_work_or a0).Hi])) := by
 have hs := span_work_or.eq_1 a0
 refine calls_of_CW Try.func82 rfl (n := 29) Try.ntmps82 (by kernel_rfl) [0] (F := [(0, .agg #[.int .u64 a0.a.Lo, .int .u64 a0.a.Hi, .int .u64 a0.b.Lo, .int .u64 a0.b.Hi, .bool a0.narrow, .int .u64 a0.most, .int .u64 a0.size])]) (by kernel_rfl) ?_
 refine CW.seq fun K1 hK1 => ?_
 refine CW.region ?_
 refine WR.box (dst := some 1) (e := 79) (v := .agg #[.int .u64 a0.a.Lo, .int .u64 a0.a.Hi, .int .u64 a0.b.Lo, .int .u64 a0.b.Hi, .bool a0.narrow, .int .u64 a0.most, .int .u64 a0.size]) (by kernel_rfl) #[.int .u64 a0.a.Lo, .int .u64 a0.a.Hi, .int .u64 a0.b.Lo, .int .u64 a0.b.Hi, .bool a0.narrow, .int .u64 a0.most, .int .u64 a0.size] (by kernel_rfl) ?_
 intro g2 w3 hN4
 have hf6 : w.heap.size ≤ g2 := hN4.fresh
 have hfr8 := hN4.fresh
 have hc7 := hN4.chg
 have hz10 := hc7.size
 have hC9 := (Chg.refl [] w).pure hc7
 have hb5 := hN4.blk
 have hg11 := hb5.lt
 refine WR.alloc (dst := some 2) (e := 25) (by kernel_rfl) #[.int .u64 0, .int .u64 0] (by kernel_rfl) ?_
 intro g12 w13 hN14
 have hl17 : g2 < g12 := Nat.lt_of_lt_of_le hb5.lt hN14.fresh
 have hf16 : w.heap.size ≤ g12 := Nat.le_trans hC9.size hN14.fresh
 have hfr19 := hN14.fresh
 have hc18 := hN14.chg
 have hz21 := hc18.size
 have hC20 := hC9.pure hc18
 have hb22 := hb5.pure hc18
 have hb15 := hN14.blk
 have hg23 := hb15.lt
 refine WR.fin (by kernel_rfl) ?_
 refine go hK1 ?_
 refine CW.seq fun K24 hK24 => ?_
 refine CW.seq fun K25 hK25 => ?_
 refine CW.region ?_
 refine WR.load (dst := some 3) (t := 79) (o := 0) hb22 (by kernel_rfl) (.agg #[.int .u64 a0.a.Lo, .int .u64 a0.a.Hi, .int .u64 a0.b.Lo, .int .u64 a0.b.Hi, .bool a0.narrow, .int .u64 a0.most, .int .u64 a0.size]) (by kernel_rfl) ?_
 obtain ⟨x26, hx27⟩ : ∃ x, span_work_both a0 = x := ⟨_, rfl⟩
 have hs28 := letS hx27 hs
 refine WR.call (dst := some 4) (by kernel_rfl) (retE (g := fun r : Bool => (.bool r : Value)) hx27 (span_work_both_any a0 w13  ⟨(by omega), (by omega), (by omega), (by omega), (by omega), (by omega)⟩ )) ?_
 rintro _ w29 hc30 rfl
 have hz32 := hc30.size
 have hC31 := hC20.pure hc30
 have hb33 := hb22.pure hc30
 have hb34 := hb15.pure hc30
 refine WR.fin (by kernel_rfl) ?_
 refine go hK25 ?_
 refine CW.cond (x26) (by kernel_rfl) (fun ht35 => ?_) (fun ht35 => ?_)
 ·
  have hs36 := ifT ht35 hs28
  refine CW.seq fun K37 hK37 => ?_
  refine CW.region ?_
  refine WR.batch 2 [(1, pt g2 0), (2, pt g12 0), (6, pt g2 0)] (by kernel_rfl) ?_
  refine WR.load (dst := some 7) (t := 23) (o := 0) hb33 (by kernel_rfl) (.int .u64 a0.a.Lo) (by kernel_rfl) ?_
  refine WR.batch 2 [(2, pt g12 0), (7, .int .u64 a0.a.Lo), (9, pt g2 2)] (by kernel_rfl) ?_
  refine WR.load (dst := some 10) (t := 23) (o := 2) hb33 (by kernel_rfl) (.int .u64 a0.b.Lo) (by kernel_rfl) ?_
  refine WR.batch 1 [(2, pt g12 0), (11, .int .u64 (bOr .u64 a0.a.Lo a0.b.Lo))] (by kernel_rfl) ?_
  obtain ⟨x38, hx39⟩ : ∃ x, span_Of (bOr .u64 a0.a.Lo a0.b.Lo) = x := ⟨_, rfl⟩
  have hs41 := letS hx39 hs36
  have hx42 : (0 ≤ x38.Lo ∧ x38.Lo ≤ 18446744073709551615) ∧ (0 ≤ x38.Hi ∧ x38.Hi ≤ 18446744073709551615) := by rw [← hx39]; exact span_Of_ok (bOr .u64 a0.a.Lo a0.b.Lo) (wrapU64 _) 
  refine WR.call (dst := some 12) (by kernel_rfl) (retE (g := fun r : TSpan => (.agg #[.int .u64 r.Lo, .int .u64 r.Hi] : Value)) hx39 (span_Of_any (bOr .u64 a0.a.Lo a0.b.Lo) w29  (wrapU64 _) )) ?_
  rintro _ w43 hc44 rfl
  have hz46 := hc44.size
  have hC45 := hC31.pure hc44
  have hb47 := hb33.pure hc44
  have hb48 := hb34.pure hc44
  refine WR.store (t := 25) (o := 0) (v := .agg #[.int .u64 x38.Lo, .int .u64 x38.Hi]) hb48 (by kernel_rfl) #[.int .u64 x38.Lo, .int .u64 x38.Hi] (by kernel_rfl) ?_
  intro w49 hb50 hc51
  have hz53 := hc51.size
  have hC52 := hC45.step1 hc51 (by omega)
  have hb54 := hb47.chg1 hc51 (by omega)
  refine WR.fin (by kernel_rfl) ?_
  refine go hK37 ?_
  refine CW.ret ?_
  exact retC [.agg #[.int .u64 x38.Lo, .int .u64 x38.Hi]] (.agg #[.int .u64 x38.Lo, .int .u64 x38.Hi]) rfl ⟨resCell hb50 rfl (by kernel_rfl), trivial⟩ (⟨hC52, (congrArg (fun r : TSpan => (.agg #[.int .u64 r.Lo, .int .u64 r.Hi] : Value)) hs41).symm⟩)
 have hs55 := ifF ht35 hs28
 refine CW.skip ?_
 refine go hK24 ?_
 refine CW.seq fun K56 hK56 => ?_
 refine CW.keep [1, 2] (F' := [(1, pt g2 0), (2, pt g12 0)]) (by kernel_rfl) ?_
 refine CW.regionG 16 [some (pt g2 0), some (pt g2 0), some (.int .u64 a0.a.Lo), some (pt g2 2), some (pt g2 2), some (.int .u64 a0.b.Lo), some (.int .u64 (gMax a0.a.Lo a0.b.Lo)), some (pt g2 0), some (pt g2 1), some (.int .u64 a0.a.Hi), some (pt g2 2), some (pt g2 3), some (.int .u64 a0.b.Hi), some (.int .u64 (bOr .u64 a0.a.Hi a0.b.Hi)), some (.int .u64 (span_fill (bOr .u64 a0.a.Hi a0.b.Hi))), some (.agg #[.int .u64 (gMax a0.a.Lo a0.b.Lo), .int .u64 (span_fill (bOr .u64 a0.a.Hi a0.b.Hi))])] (fun u => [(13, pt g2 0), (14, pt g2 0), (15, .int .u64 a0.a.Lo), (16, pt g2 2), (17, pt g2 2), (18, .int .u64 a0.b.Lo), (19, .int .u64 (gMax a0.a.Lo a0.b.Lo)), (20, pt g2 0), (21, pt g2 1), (22, .int .u64 a0.a.Hi), (23, pt g2 2), (24, pt g2 3), (25, .int .u64 a0.b.Hi), (26, .int .u64 (bOr .u64 a0.a.Hi a0.b.Hi)), (27, .int .u64 (span_fill (bOr .u64 a0.a.Hi a0.b.Hi))), (28, .agg #[.int .u64 (gMax a0.a.Lo a0.b.Lo), .int .u64 (span_fill (bOr .u64 a0.a.Hi a0.b.Hi))]), (1, pt g2 0), (2, pt g12 0)]) (fun _ => by kernel_rfl) (by kernel_rfl) [] (fun _ _ => True) (fun _ => trivial) (fun _ _ _ _ _ _ _ => trivial) [] [] (by kernel_rfl) (fun w' => Chg [] w29 w') (fun _ _ _ => True) (fun j x w hj h => absurd hj (by simp)) (by kernel_rfl) (by kernel_rfl) (by kernel_rfl) (by kernel_rfl) (Chg.drew w29) (fun _ _ _ h h' => h.step h' (fun t ht => .inl (cL_sub t ht))) (fun _ _ _ _ _ _ _ _ => trivial) (obsG_batch 2 0 14 (fun _ _ => by kernel_rfl) (by kernel_rfl) ⟨?_, (obsG_batch 2 3 11 (fun _ _ => by kernel_rfl) (by kernel_rfl) ⟨?_, (obsG_batch 3 6 7 (fun _ _ => by kernel_rfl) (by kernel_rfl) ⟨?_, (obsG_batch 2 10 4 (fun _ _ => by kernel_rfl) (by kernel_rfl) ⟨?_, (obsG_batch 1 13 2 (fun _ _ => by kernel_rfl) (by kernel_rfl) ⟨?_, (obsG_batch 1 15 0 (fun _ _ => by kernel_rfl) (by kernel_rfl) trivial)⟩)⟩)⟩)⟩)⟩) ?_
 ·
  intro u57 w58 hW59 _ hp60 hal61
  have hz64 := hW59.size
  have hC63 := hC31.pure hW59
  have hb65 := hb33.pure hW59
  have hb66 := hb34.pure hW59
  refine WR.load (dst := some 15) (t := 23) (o := 0) hb65 (by kernel_rfl) (.int .u64 a0.a.Lo) (by kernel_rfl) ?_
  refine WR.fin (by kernel_rfl) ?_
  exact fun _ ha => ⟨Chg.refl _ _, _, ha, ⟨⟨fun h => absurd h (by decide), alNone (by decide)⟩, rfl⟩⟩
 ·
  intro u67 w68 hW69 _ hp70 hal71
  have hz74 := hW69.size
  have hC73 := hC31.pure hW69
  have hb75 := hb33.pure hW69
  have hb76 := hb34.pure hW69
  refine WR.load (dst := some 18) (t := 23) (o := 2) hb75 (by kernel_rfl) (.int .u64 a0.b.Lo) (by kernel_rfl) ?_
  refine WR.fin (by kernel_rfl) ?_
  exact fun _ ha => ⟨Chg.refl _ _, _, ha, ⟨⟨fun h => absurd h (by decide), alNone (by decide)⟩, rfl⟩⟩
 ·
  intro u77 w78 hW79 _ hp80 hal81
  have hz84 := hW79.size
  have hC83 := hC31.pure hW79
  have hb85 := hb33.pure hW79
  have hb86 := hb34.pure hW79
  refine WR.load (dst := some 22) (t := 23) (o := 1) hb85 (by kernel_rfl) (.int .u64 a0.a.Hi) (by kernel_rfl) ?_
  refine WR.fin (by kernel_rfl) ?_
  exact fun _ ha => ⟨Chg.refl _ _, _, ha, ⟨⟨fun h => absurd h (by decide), alNone (by decide)⟩, rfl⟩⟩
 ·
  intro u87 w88 hW89 _ hp90 hal91
  have hz94 := hW89.size
  have hC93 := hC31.pure hW89
  have hb95 := hb33.pure hW89
  have hb96 := hb34.pure hW89
  refine WR.load (dst := some 25) (t := 23) (o := 3) hb95 (by kernel_rfl) (.int .u64 a0.b.Hi) (by kernel_rfl) ?_
  refine WR.fin (by kernel_rfl) ?_
  exact fun _ ha => ⟨Chg.refl _ _, _, ha, ⟨⟨fun h => absurd h (by decide), alNone (by decide)⟩, rfl⟩⟩
 ·
  intro u97 w98 hW99 _ hp100 hal101
  have hz104 := hW99.size
  have hC103 := hC31.pure hW99
  have hb105 := hb33.pure hW99
  have hb106 := hb34.pure hW99
  have hx107 : (0 ≤ (span_fill (bOr .u64 a0.a.Hi a0.b.Hi)) ∧ (span_fill (bOr .u64 a0.a.Hi a0.b.Hi)) ≤ 18446744073709551615) := span_fill_ok (bOr .u64 a0.a.Hi a0.b.Hi) (wrapU64 _) 
  have hx108 : (0 ≤ (span_fill (bOr .u64 a0.a.Hi a0.b.Hi)) ∧ (span_fill (bOr .u64 a0.a.Hi a0.b.Hi)) ≤ 18446744073709551615) := span_fill_ok (bOr .u64 a0.a.Hi a0.b.Hi) (wrapU64 _) 
  refine WR.call (dst := some 27) (by kernel_rfl) (span_fill_any (bOr .u64 a0.a.Hi a0.b.Hi) w98  (wrapU64 _) ) ?_
  rintro _ w109 hc110 rfl
  have hz112 := hc110.size
  have hC111 := hC103.pure hc110
  have hb113 := hb105.pure hc110
  have hb114 := hb106.pure hc110
  refine WR.fin (by kernel_rfl) ?_
  exact fun _ ha => ⟨hc110, _, ha, ⟨⟨fun h => absurd h (by decide), alNone (by decide)⟩, rfl⟩⟩
 intro u115 w116 hW117 _ _ _
 have hz122 := hW117.size
 have hC121 := hC31.pure hW117
 have hb123 := hb33.pure hW117
 have hb124 := hb34.pure hW117
 have hx125 : (0 ≤ (span_fill (bOr .u64 a0.a.Hi a0.b.Hi)) ∧ (span_fill (bOr .u64 a0.a.Hi a0.b.Hi)) ≤ 18446744073709551615) := span_fill_ok (bOr .u64 a0.a.Hi a0.b.Hi) (wrapU64 _) 
 refine WR.keep [2, 28] (F' := [(2, pt g12 0), (28, .agg #[.int .u64 (gMax a0.a.Lo a0.b.Lo), .int .u64 (span_fill (bOr .u64 a0.a.Hi a0.b.Hi))])]) (by kernel_rfl) ?_
 refine WR.store (t := 25) (o := 0) (v := .agg #[.int .u64 (gMax a0.a.Lo a0.b.Lo), .int .u64 (span_fill (bOr .u64 a0.a.Hi a0.b.Hi))]) hb124 (by kernel_rfl) #[.int .u64 (gMax a0.a.Lo a0.b.Lo), .int .u64 (span_fill (bOr .u64 a0.a.Hi a0.b.Hi))] (by kernel_rfl) ?_
 intro w126 hb127 hc128
 have hz130 := hc128.size
 have hC129 := hC121.step1 hc128 (by omega)
 have hb131 := hb123.chg1 hc128 (by omega)
 refine WR.fin (by kernel_rfl) ?_
 refine go hK56 ?_
 refine CW.ret ?_
 exact retC [.agg #[.int .u64 (gMax a0.a.Lo a0.b.Lo), .int .u64 (span_fill (bOr .u64 a0.a.Hi a0.b.Hi))]] (.agg #[.int .u64 (gMax a0.a.Lo a0.b.Lo), .int .u64 (span_fill (bOr .u64 a0.a.Hi a0.b.Hi))]) rfl ⟨resCell hb127 rfl (by kernel_rfl), trivial⟩ (⟨hC129, (congrArg (fun r : TSpan => (.agg #[.int .u64 r.Lo, .int .u64 r.Hi] : Value)) hs55).symm⟩)

def span_work_xor (a0 : Twork)  : TSpan := (letF (span_work_both a0) fun x26 => (if x26 then (letF (span_Of (bXor .u64 a0.a.Lo a0.b.Lo)) fun x38 => x38) else (letF (span_fill (bOr .u64 a0.a.Hi a0.b.Hi)) fun x57 => (⟨(0 : Int), x57⟩ : TSpan))))

theorem span_work_xor_ok (a0 : Twork)  (_h_a0 : (0 ≤ a0.a.Lo ∧ a0.a.Lo ≤ 18446744073709551615) ∧ (0 ≤ a0.a.Hi ∧ a0.a.Hi ≤ 18446744073709551615) ∧ (0 ≤ a0.b.Lo ∧ a0.b.Lo ≤ 18446744073709551615) ∧ (0 ≤ a0.b.Hi ∧ a0.b.Hi ≤ 18446744073709551615) ∧ (0 ≤ a0.most ∧ a0.most ≤ 18446744073709551615) ∧ (0 ≤ a0.size ∧ a0.size ≤ 18446744073709551615))  : (0 ≤ (span_work_xor a0).Lo ∧ (span_work_xor a0).Lo ≤ 18446744073709551615) ∧ (0 ≤ (span_work_xor a0).Hi ∧ (span_work_xor a0).Hi ≤ 18446744073709551615) := by
 rw [span_work_xor.eq_1]
 refine letR (p := fun r : TSpan => (0 ≤ r.Lo ∧ r.Lo ≤ 18446744073709551615) ∧ (0 ≤ r.Hi ∧ r.Hi ≤ 18446744073709551615)) fun x26 _ => ?_
 refine iteR (p := fun r : TSpan => (0 ≤ r.Lo ∧ r.Lo ≤ 18446744073709551615) ∧ (0 ≤ r.Hi ∧ r.Hi ≤ 18446744073709551615)) (fun hi1001 => ?_) (fun hi1001 => ?_)
 ·
  refine letR (p := fun r : TSpan => (0 ≤ r.Lo ∧ r.Lo ≤ 18446744073709551615) ∧ (0 ≤ r.Hi ∧ r.Hi ≤ 18446744073709551615)) fun x38 hx39 => ?_
  have hx40 : (0 ≤ x38.Lo ∧ x38.Lo ≤ 18446744073709551615) ∧ (0 ≤ x38.Hi ∧ x38.Hi ≤ 18446744073709551615) := by rw [← hx39]; exact span_Of_ok (bXor .u64 a0.a.Lo a0.b.Lo) (wrapU64 _) 
  exact (by exact (show (0 ≤ x38.Lo ∧ x38.Lo ≤ 18446744073709551615) ∧ (0 ≤ x38.Hi ∧ x38.Hi ≤ 18446744073709551615) from ⟨(by omega), (by omega)⟩))
 refine letR (p := fun r : TSpan => (0 ≤ r.Lo ∧ r.Lo ≤ 18446744073709551615) ∧ (0 ≤ r.Hi ∧ r.Hi ≤ 18446744073709551615)) fun x57 hx58 => ?_
 have hx59 : (0 ≤ x57 ∧ x57 ≤ 18446744073709551615) := by rw [← hx58]; exact span_fill_ok (bOr .u64 a0.a.Hi a0.b.Hi) (wrapU64 _) 
 exact (by exact (show (0 ≤ (0 : Int) ∧ (0 : Int) ≤ 18446744073709551615) ∧ (0 ≤ x57 ∧ x57 ≤ 18446744073709551615) from ⟨(by omega), (by omega)⟩))

theorem span_work_xor_any (a0 : Twork)   (w : World)  (_h_a0 : (0 ≤ a0.a.Lo ∧ a0.a.Lo ≤ 18446744073709551615) ∧ (0 ≤ a0.a.Hi ∧ a0.a.Hi ≤ 18446744073709551615) ∧ (0 ≤ a0.b.Lo ∧ a0.b.Lo ≤ 18446744073709551615) ∧ (0 ≤ a0.b.Hi ∧ a0.b.Hi ≤ 18446744073709551615) ∧ (0 ≤ a0.most ∧ a0.most ≤ 18446744073709551615) ∧ (0 ≤ a0.size ∧ a0.size ≤ 18446744073709551615))  : Calls Try.prog 83 #[.agg #[.int .u64 a0.a.Lo, .int .u64 a0.a.Hi, .int .u64 a0.b.Lo, .int .u64 a0.b.Hi, .bool a0.narrow, .int .u64 a0.most, .int .u64 a0.size]] w (RetV w (.agg #[.int .u64 (span_work_xor a0).Lo, .int .u64 (span_work_xor a0).Hi])) := by
 have hs := span_work_xor.eq_1 a0
 refine calls_of_CW Try.func83 rfl (n := 22) Try.ntmps83 (by kernel_rfl) [0] (F := [(0, .agg #[.int .u64 a0.a.Lo, .int .u64 a0.a.Hi, .int .u64 a0.b.Lo, .int .u64 a0.b.Hi, .bool a0.narrow, .int .u64 a0.most, .int .u64 a0.size])]) (by kernel_rfl) ?_
 refine CW.seq fun K1 hK1 => ?_
 refine CW.region ?_
 refine WR.box (dst := some 1) (e := 79) (v := .agg #[.int .u64 a0.a.Lo, .int .u64 a0.a.Hi, .int .u64 a0.b.Lo, .int .u64 a0.b.Hi, .bool a0.narrow, .int .u64 a0.most, .int .u64 a0.size]) (by kernel_rfl) #[.int .u64 a0.a.Lo, .int .u64 a0.a.Hi, .int .u64 a0.b.Lo, .int .u64 a0.b.Hi, .bool a0.narrow, .int .u64 a0.most, .int .u64 a0.size] (by kernel_rfl) ?_
 intro g2 w3 hN4
 have hf6 : w.heap.size ≤ g2 := hN4.fresh
 have hfr8 := hN4.fresh
 have hc7 := hN4.chg
 have hz10 := hc7.size
 have hC9 := (Chg.refl [] w).pure hc7
 have hb5 := hN4.blk
 have hg11 := hb5.lt
 refine WR.alloc (dst := some 2) (e := 25) (by kernel_rfl) #[.int .u64 0, .int .u64 0] (by kernel_rfl) ?_
 intro g12 w13 hN14
 have hl17 : g2 < g12 := Nat.lt_of_lt_of_le hb5.lt hN14.fresh
 have hf16 : w.heap.size ≤ g12 := Nat.le_trans hC9.size hN14.fresh
 have hfr19 := hN14.fresh
 have hc18 := hN14.chg
 have hz21 := hc18.size
 have hC20 := hC9.pure hc18
 have hb22 := hb5.pure hc18
 have hb15 := hN14.blk
 have hg23 := hb15.lt
 refine WR.fin (by kernel_rfl) ?_
 refine go hK1 ?_
 refine CW.seq fun K24 hK24 => ?_
 refine CW.seq fun K25 hK25 => ?_
 refine CW.region ?_
 refine WR.load (dst := some 3) (t := 79) (o := 0) hb22 (by kernel_rfl) (.agg #[.int .u64 a0.a.Lo, .int .u64 a0.a.Hi, .int .u64 a0.b.Lo, .int .u64 a0.b.Hi, .bool a0.narrow, .int .u64 a0.most, .int .u64 a0.size]) (by kernel_rfl) ?_
 obtain ⟨x26, hx27⟩ : ∃ x, span_work_both a0 = x := ⟨_, rfl⟩
 have hs28 := letS hx27 hs
 refine WR.call (dst := some 4) (by kernel_rfl) (retE (g := fun r : Bool => (.bool r : Value)) hx27 (span_work_both_any a0 w13  ⟨(by omega), (by omega), (by omega), (by omega), (by omega), (by omega)⟩ )) ?_
 rintro _ w29 hc30 rfl
 have hz32 := hc30.size
 have hC31 := hC20.pure hc30
 have hb33 := hb22.pure hc30
 have hb34 := hb15.pure hc30
 refine WR.fin (by kernel_rfl) ?_
 refine go hK25 ?_
 refine CW.cond (x26) (by kernel_rfl) (fun ht35 => ?_) (fun ht35 => ?_)
 ·
  have hs36 := ifT ht35 hs28
  refine CW.seq fun K37 hK37 => ?_
  refine CW.region ?_
  refine WR.batch 2 [(1, pt g2 0), (2, pt g12 0), (6, pt g2 0)] (by kernel_rfl) ?_
  refine WR.load (dst := some 7) (t := 23) (o := 0) hb33 (by kernel_rfl) (.int .u64 a0.a.Lo) (by kernel_rfl) ?_
  refine WR.batch 2 [(2, pt g12 0), (7, .int .u64 a0.a.Lo), (9, pt g2 2)] (by kernel_rfl) ?_
  refine WR.load (dst := some 10) (t := 23) (o := 2) hb33 (by kernel_rfl) (.int .u64 a0.b.Lo) (by kernel_rfl) ?_
  refine WR.batch 1 [(2, pt g12 0), (11, .int .u64 (bXor .u64 a0.a.Lo a0.b.Lo))] (by kernel_rfl) ?_
  obtain ⟨x38, hx39⟩ : ∃ x, span_Of (bXor .u64 a0.a.Lo a0.b.Lo) = x := ⟨_, rfl⟩
  have hs41 := letS hx39 hs36
  have hx42 : (0 ≤ x38.Lo ∧ x38.Lo ≤ 18446744073709551615) ∧ (0 ≤ x38.Hi ∧ x38.Hi ≤ 18446744073709551615) := by rw [← hx39]; exact span_Of_ok (bXor .u64 a0.a.Lo a0.b.Lo) (wrapU64 _) 
  refine WR.call (dst := some 12) (by kernel_rfl) (retE (g := fun r : TSpan => (.agg #[.int .u64 r.Lo, .int .u64 r.Hi] : Value)) hx39 (span_Of_any (bXor .u64 a0.a.Lo a0.b.Lo) w29  (wrapU64 _) )) ?_
  rintro _ w43 hc44 rfl
  have hz46 := hc44.size
  have hC45 := hC31.pure hc44
  have hb47 := hb33.pure hc44
  have hb48 := hb34.pure hc44
  refine WR.store (t := 25) (o := 0) (v := .agg #[.int .u64 x38.Lo, .int .u64 x38.Hi]) hb48 (by kernel_rfl) #[.int .u64 x38.Lo, .int .u64 x38.Hi] (by kernel_rfl) ?_
  intro w49 hb50 hc51
  have hz53 := hc51.size
  have hC52 := hC45.step1 hc51 (by omega)
  have hb54 := hb47.chg1 hc51 (by omega)
  refine WR.fin (by kernel_rfl) ?_
  refine go hK37 ?_
  refine CW.ret ?_
  exact retC [.agg #[.int .u64 x38.Lo, .int .u64 x38.Hi]] (.agg #[.int .u64 x38.Lo, .int .u64 x38.Hi]) rfl ⟨resCell hb50 rfl (by kernel_rfl), trivial⟩ (⟨hC52, (congrArg (fun r : TSpan => (.agg #[.int .u64 r.Lo, .int .u64 r.Hi] : Value)) hs41).symm⟩)
 have hs55 := ifF ht35 hs28
 refine CW.skip ?_
 refine go hK24 ?_
 refine CW.seq fun K56 hK56 => ?_
 refine CW.region ?_
 refine WR.batch 2 [(1, pt g2 0), (2, pt g12 0), (14, pt g2 1)] (by kernel_rfl) ?_
 refine WR.load (dst := some 15) (t := 23) (o := 1) hb33 (by kernel_rfl) (.int .u64 a0.a.Hi) (by kernel_rfl) ?_
 refine WR.batch 2 [(2, pt g12 0), (15, .int .u64 a0.a.Hi), (17, pt g2 3)] (by kernel_rfl) ?_
 refine WR.load (dst := some 18) (t := 23) (o := 3) hb33 (by kernel_rfl) (.int .u64 a0.b.Hi) (by kernel_rfl) ?_
 refine WR.batch 1 [(2, pt g12 0), (19, .int .u64 (bOr .u64 a0.a.Hi a0.b.Hi))] (by kernel_rfl) ?_
 obtain ⟨x57, hx58⟩ : ∃ x, span_fill (bOr .u64 a0.a.Hi a0.b.Hi) = x := ⟨_, rfl⟩
 have hs60 := letS hx58 hs55
 have hx61 : (0 ≤ x57 ∧ x57 ≤ 18446744073709551615) := by rw [← hx58]; exact span_fill_ok (bOr .u64 a0.a.Hi a0.b.Hi) (wrapU64 _) 
 refine WR.call (dst := some 20) (by kernel_rfl) (retE (g := fun r : Int => (.int .u64 r : Value)) hx58 (span_fill_any (bOr .u64 a0.a.Hi a0.b.Hi) w29  (wrapU64 _) )) ?_
 rintro _ w62 hc63 rfl
 have hz65 := hc63.size
 have hC64 := hC31.pure hc63
 have hb66 := hb33.pure hc63
 have hb67 := hb34.pure hc63
 refine WR.batch 1 [(2, pt g12 0), (21, .agg #[.int .u64 0, .int .u64 x57])] (by kernel_rfl) ?_
 refine WR.store (t := 25) (o := 0) (v := .agg #[.int .u64 0, .int .u64 x57]) hb67 (by kernel_rfl) #[.int .u64 0, .int .u64 x57] (by kernel_rfl) ?_
 intro w68 hb69 hc70
 have hz72 := hc70.size
 have hC71 := hC64.step1 hc70 (by omega)
 have hb73 := hb66.chg1 hc70 (by omega)
 refine WR.fin (by kernel_rfl) ?_
 refine go hK56 ?_
 refine CW.ret ?_
 exact retC [.agg #[.int .u64 0, .int .u64 x57]] (.agg #[.int .u64 0, .int .u64 x57]) rfl ⟨resCell hb69 rfl (by kernel_rfl), trivial⟩ (⟨hC71, (congrArg (fun r : TSpan => (.agg #[.int .u64 r.Lo, .int .u64 r.Hi] : Value)) hs60).symm⟩)

def span_work_mul (a0 : Twork)  : Option TSpan := (letF (Mul64 a0.a.Hi a0.b.Hi) fun x25 => (optF (span_must ((x25.1 == (0 : Int)) && (decide (x25.2 ≤ a0.most)))) (none) fun _ => some (⟨(IntKind.u64.wrap (a0.a.Lo * a0.b.Lo)), x25.2⟩ : TSpan)))

theorem span_work_mul_ok (a0 : Twork)  (_h_a0 : (0 ≤ a0.a.Lo ∧ a0.a.Lo ≤ 18446744073709551615) ∧ (0 ≤ a0.a.Hi ∧ a0.a.Hi ≤ 18446744073709551615) ∧ (0 ≤ a0.b.Lo ∧ a0.b.Lo ≤ 18446744073709551615) ∧ (0 ≤ a0.b.Hi ∧ a0.b.Hi ≤ 18446744073709551615) ∧ (0 ≤ a0.most ∧ a0.most ≤ 18446744073709551615) ∧ (0 ≤ a0.size ∧ a0.size ≤ 18446744073709551615))  : ∀ y, (span_work_mul a0) = some y → (0 ≤ y.Lo ∧ y.Lo ≤ 18446744073709551615) ∧ (0 ≤ y.Hi ∧ y.Hi ≤ 18446744073709551615) := by
 rw [span_work_mul.eq_1]
 refine letR (p := fun r : Option TSpan => ∀ y, r = some y → (0 ≤ y.Lo ∧ y.Lo ≤ 18446744073709551615) ∧ (0 ≤ y.Hi ∧ y.Hi ≤ 18446744073709551615)) fun x25 hx26 => ?_
 have hx27 : (0 ≤ x25.1 ∧ x25.1 ≤ 18446744073709551615) ∧ (0 ≤ x25.2 ∧ x25.2 ≤ 18446744073709551615) := by rw [← hx26]; exact Mul64_ok a0.a.Hi a0.b.Hi (by omega) (by omega) 
 refine optR (p := fun r : Option TSpan => ∀ y, r = some y → (0 ≤ y.Lo ∧ y.Lo ≤ 18446744073709551615) ∧ (0 ≤ y.Hi ∧ y.Hi ≤ 18446744073709551615)) (fun _ => ?_) (fun x45 _ => ?_)
 ·
  intro y hy; cases hy
 intro y hy; cases hy; exact (by exact (show (0 ≤ (IntKind.u64.wrap (a0.a.Lo * a0.b.Lo)) ∧ (IntKind.u64.wrap (a0.a.Lo * a0.b.Lo)) ≤ 18446744073709551615) ∧ (0 ≤ x25.2 ∧ x25.2 ≤ 18446744073709551615) from ⟨(wrapU64 _), (by omega)⟩))

theorem span_work_mul_any (a0 : Twork)   (w : World)  (_h_a0 : (0 ≤ a0.a.Lo ∧ a0.a.Lo ≤ 18446744073709551615) ∧ (0 ≤ a0.a.Hi ∧ a0.a.Hi ≤ 18446744073709551615) ∧ (0 ≤ a0.b.Lo ∧ a0.b.Lo ≤ 18446744073709551615) ∧ (0 ≤ a0.b.Hi ∧ a0.b.Hi ≤ 18446744073709551615) ∧ (0 ≤ a0.most ∧ a0.most ≤ 18446744073709551615) ∧ (0 ≤ a0.size ∧ a0.size ≤ 18446744073709551615))  : Calls Try.prog 78 #[.agg #[.int .u64 a0.a.Lo, .int .u64 a0.a.Hi, .int .u64 a0.b.Lo, .int .u64 a0.b.Hi, .bool a0.narrow, .int .u64 a0.most, .int .u64 a0.size]] w (RetP w (.iface 76 (.agg #[])) (((span_work_mul a0)).map fun r : TSpan => (.agg #[.int .u64 r.Lo, .int .u64 r.Hi] : Value))) := by
 have hs := span_work_mul.eq_1 a0
 refine calls_of_CW Try.func78 rfl (n := 33) Try.ntmps78 (by kernel_rfl) [0] (F := [(0, .agg #[.int .u64 a0.a.Lo, .int .u64 a0.a.Hi, .int .u64 a0.b.Lo, .int .u64 a0.b.Hi, .bool a0.narrow, .int .u64 a0.most, .int .u64 a0.size])]) (by kernel_rfl) ?_
 refine CW.seq fun K1 hK1 => ?_
 refine CW.region ?_
 refine WR.box (dst := some 1) (e := 79) (v := .agg #[.int .u64 a0.a.Lo, .int .u64 a0.a.Hi, .int .u64 a0.b.Lo, .int .u64 a0.b.Hi, .bool a0.narrow, .int .u64 a0.most, .int .u64 a0.size]) (by kernel_rfl) #[.int .u64 a0.a.Lo, .int .u64 a0.a.Hi, .int .u64 a0.b.Lo, .int .u64 a0.b.Hi, .bool a0.narrow, .int .u64 a0.most, .int .u64 a0.size] (by kernel_rfl) ?_
 intro g2 w3 hN4
 have hf6 : w.heap.size ≤ g2 := hN4.fresh
 have hfr8 := hN4.fresh
 have hc7 := hN4.chg
 have hz10 := hc7.size
 have hC9 := (Chg.refl [] w).pure hc7
 have hb5 := hN4.blk
 have hg11 := hb5.lt
 refine WR.alloc (dst := some 2) (e := 25) (by kernel_rfl) #[.int .u64 0, .int .u64 0] (by kernel_rfl) ?_
 intro g12 w13 hN14
 have hl17 : g2 < g12 := Nat.lt_of_lt_of_le hb5.lt hN14.fresh
 have hf16 : w.heap.size ≤ g12 := Nat.le_trans hC9.size hN14.fresh
 have hfr19 := hN14.fresh
 have hc18 := hN14.chg
 have hz21 := hc18.size
 have hC20 := hC9.pure hc18
 have hb22 := hb5.pure hc18
 have hb15 := hN14.blk
 have hg23 := hb15.lt
 refine WR.fin (by kernel_rfl) ?_
 refine go hK1 ?_
 refine CW.seq fun K24 hK24 => ?_
 refine CW.region ?_
 refine WR.batch 2 [(1, pt g2 0), (2, pt g12 0), (7, pt g2 1)] (by kernel_rfl) ?_
 refine WR.load (dst := some 8) (t := 23) (o := 1) hb22 (by kernel_rfl) (.int .u64 a0.a.Hi) (by kernel_rfl) ?_
 refine WR.batch 2 [(1, pt g2 0), (2, pt g12 0), (8, .int .u64 a0.a.Hi), (10, pt g2 3)] (by kernel_rfl) ?_
 refine WR.load (dst := some 11) (t := 23) (o := 3) hb22 (by kernel_rfl) (.int .u64 a0.b.Hi) (by kernel_rfl) ?_
 obtain ⟨x25, hx26⟩ : ∃ x, Mul64 a0.a.Hi a0.b.Hi = x := ⟨_, rfl⟩
 have hs28 := letS hx26 hs
 have hx29 : (0 ≤ x25.1 ∧ x25.1 ≤ 18446744073709551615) ∧ (0 ≤ x25.2 ∧ x25.2 ≤ 18446744073709551615) := by rw [← hx26]; exact Mul64_ok a0.a.Hi a0.b.Hi (by omega) (by omega) 
 refine WR.call (dst := some 12) (by kernel_rfl) (retE (g := fun r : (Int × Int) => (.tuple #[.int .u64 r.1, .int .u64 r.2] : Value)) hx26 (Mul64_any a0.a.Hi a0.b.Hi w13  (by omega) (by omega) )) ?_
 rintro _ w30 hc31 rfl
 have hz33 := hc31.size
 have hC32 := hC20.pure hc31
 have hb34 := hb22.pure hc31
 have hb35 := hb15.pure hc31
 refine WR.batch 5 [(1, pt g2 0), (2, pt g12 0), (3, .int .u64 x25.1), (4, .int .u64 x25.2)] (by kernel_rfl) ?_
 refine WR.fin (by kernel_rfl) ?_
 refine go hK24 ?_
 refine CW.seq fun K36 hK36 => ?_
 refine CW.region ?_
 refine WR.batch 3 [(1, pt g2 0), (2, pt g12 0), (4, .int .u64 x25.2), (17, .bool (x25.1 == (0 : Int)))] (by kernel_rfl) ?_
 refine WR.mergeW 8 [(1, pt g2 0), (2, pt g12 0), (4, .int .u64 x25.2), (22, .bool ((x25.1 == (0 : Int)) && (decide (x25.2 ≤ a0.most))))] (fun w' => Chg [] w30 w') (fun Q' => ?_) ?_
 ·
  cases hg37 : (x25.1 == (0 : Int))
  ·
   replace hg37 : x25.1 ≠ (0 : Int) := (bEqF hg37)
   intro hM38
   refine WR.batch 5 [(1, pt g2 0), (2, pt g12 0), (4, .int .u64 x25.2), (22, .bool false)] (by kernel_rfl) ?_
   exact WR.keep [1, 2, 4, 22] (by kernel_rfl) (hM38 _ (Chg.refl [] w30))
  ·
   replace hg37 : x25.1 = (0 : Int) := (bEqT hg37)
   intro hM38
   refine WR.batch 2 [(1, pt g2 0), (2, pt g12 0), (4, .int .u64 x25.2), (17, .bool true), (18, .int .u64 x25.2), (19, pt g2 5)] (by kernel_rfl) ?_
   refine WR.load (dst := some 20) (t := 23) (o := 5) hb34 (by kernel_rfl) (.int .u64 a0.most) (by kernel_rfl) ?_
   refine WR.batch 2 [(1, pt g2 0), (2, pt g12 0), (4, .int .u64 x25.2), (22, .bool (decide (x25.2 ≤ a0.most)))] (by kernel_rfl) ?_
   exact WR.keep [1, 2, 4, 22] (by kernel_rfl) (hM38 _ (Chg.refl [] w30))
 intro w39 hc40
 have hz42 := hc40.size
 have hC41 := hC32.pure hc40
 have hb43 := hb34.pure hc40
 have hb44 := hb35.pure hc40
 rcases hx46 : span_must ((x25.1 == (0 : Int)) && (decide (x25.2 ≤ a0.most))) with _ | x45
 ·
  have hs49 := optN hx46 hs28
  refine WR.callX (dst := some 23) (by kernel_rfl) (retP_no (g := fun r : Unit => (.tuple #[] : Value)) hx46 (span_must_any ((x25.1 == (0 : Int)) && (decide (x25.2 ≤ a0.most))) w39  )) ?_
  intro w47 hc48
  have hz51 := hc48.size
  have hC50 := hC41.pure hc48
  have hb52 := hb43.pure hc48
  have hb53 := hb44.pure hc48
  exact panicV (P := Try.prog) (fn := Try.f78) (retP_pan hs49 hC50)
 have hs54 := optS hx46 hs28
 refine WR.call (dst := some 23) (by kernel_rfl) (retP_yes (g := fun r : Unit => (.tuple #[] : Value)) hx46 (span_must_any ((x25.1 == (0 : Int)) && (decide (x25.2 ≤ a0.most))) w39  )) ?_
 rintro _ w55 hc56 rfl
 have hz58 := hc56.size
 have hC57 := hC41.pure hc56
 have hb59 := hb43.pure hc56
 have hb60 := hb44.pure hc56
 refine WR.fin (by kernel_rfl) ?_
 refine go hK36 ?_
 refine CW.seq fun K61 hK61 => ?_
 refine CW.region ?_
 refine WR.batch 2 [(1, pt g2 0), (2, pt g12 0), (4, .int .u64 x25.2), (25, pt g2 0)] (by kernel_rfl) ?_
 refine WR.load (dst := some 26) (t := 23) (o := 0) hb59 (by kernel_rfl) (.int .u64 a0.a.Lo) (by kernel_rfl) ?_
 refine WR.batch 2 [(2, pt g12 0), (4, .int .u64 x25.2), (26, .int .u64 a0.a.Lo), (28, pt g2 2)] (by kernel_rfl) ?_
 refine WR.load (dst := some 29) (t := 23) (o := 2) hb59 (by kernel_rfl) (.int .u64 a0.b.Lo) (by kernel_rfl) ?_
 refine WR.batch 3 [(2, pt g12 0), (32, .agg #[.int .u64 (IntKind.u64.wrap (a0.a.Lo * a0.b.Lo)), .int .u64 x25.2])] (by kernel_rfl) ?_
 refine WR.store (t := 25) (o := 0) (v := .agg #[.int .u64 (IntKind.u64.wrap (a0.a.Lo * a0.b.Lo)), .int .u64 x25.2]) hb60 (by kernel_rfl) #[.int .u64 (IntKind.u64.wrap (a0.a.Lo * a0.b.Lo)), .int .u64 x25.2] (by kernel_rfl) ?_
 intro w62 hb63 hc64
 have hz66 := hc64.size
 have hC65 := hC57.step1 hc64 (by omega)
 have hb67 := hb59.chg1 hc64 (by omega)
 refine WR.fin (by kernel_rfl) ?_
 refine go hK61 ?_
 refine CW.ret ?_
 exact retC [.agg #[.int .u64 (IntKind.u64.wrap (a0.a.Lo * a0.b.Lo)), .int .u64 x25.2]] (.agg #[.int .u64 (IntKind.u64.wrap (a0.a.Lo * a0.b.Lo)), .int .u64 x25.2]) rfl ⟨resCell hb63 rfl (by kernel_rfl), trivial⟩ (retP_ret (g := (fun r : TSpan => (.agg #[.int .u64 r.Lo, .int .u64 r.Hi] : Value))) hs54 rfl hC65)

def span_work_plain_19 (a0 : Twork)  : Option (TSpan × TSpan) := (optF (span_must (decide (a0.a.Hi > a0.b.Lo))) (none) fun _ => some ((⟨(gMax a0.a.Lo (IntKind.u64.wrap (a0.b.Lo + (1 : Int)))), a0.a.Hi⟩ : TSpan), (⟨a0.b.Lo, (gMin a0.b.Hi (IntKind.u64.wrap (a0.a.Hi - (1 : Int))))⟩ : TSpan)))

theorem span_work_plain_19_ok (a0 : Twork)  (_h_a0 : (0 ≤ a0.a.Lo ∧ a0.a.Lo ≤ 18446744073709551615) ∧ (0 ≤ a0.a.Hi ∧ a0.a.Hi ≤ 18446744073709551615) ∧ (0 ≤ a0.b.Lo ∧ a0.b.Lo ≤ 18446744073709551615) ∧ (0 ≤ a0.b.Hi ∧ a0.b.Hi ≤ 18446744073709551615) ∧ (0 ≤ a0.most ∧ a0.most ≤ 18446744073709551615) ∧ (0 ≤ a0.size ∧ a0.size ≤ 18446744073709551615))  : ∀ y, (span_work_plain_19 a0) = some y → (0 ≤ y.1.Lo ∧ y.1.Lo ≤ 18446744073709551615) ∧ (0 ≤ y.1.Hi ∧ y.1.Hi ≤ 18446744073709551615) ∧ (0 ≤ y.2.Lo ∧ y.2.Lo ≤ 18446744073709551615) ∧ (0 ≤ y.2.Hi ∧ y.2.Hi ≤ 18446744073709551615) := by
 rw [span_work_plain_19.eq_1]
 refine optR (p := fun r : Option (TSpan × TSpan) => ∀ y, r = some y → (0 ≤ y.1.Lo ∧ y.1.Lo ≤ 18446744073709551615) ∧ (0 ≤ y.1.Hi ∧ y.1.Hi ≤ 18446744073709551615) ∧ (0 ≤ y.2.Lo ∧ y.2.Lo ≤ 18446744073709551615) ∧ (0 ≤ y.2.Hi ∧ y.2.Hi ≤ 18446744073709551615)) (fun _ => ?_) (fun x44 _ => ?_)
 ·
  intro y hy; cases hy
 intro y hy; cases hy; exact (by exact (show (0 ≤ (gMax a0.a.Lo (IntKind.u64.wrap (a0.b.Lo + (1 : Int)))) ∧ (gMax a0.a.Lo (IntKind.u64.wrap (a0.b.Lo + (1 : Int)))) ≤ 18446744073709551615) ∧ (0 ≤ a0.a.Hi ∧ a0.a.Hi ≤ 18446744073709551615) ∧ (0 ≤ a0.b.Lo ∧ a0.b.Lo ≤ 18446744073709551615) ∧ (0 ≤ (gMin a0.b.Hi (IntKind.u64.wrap (a0.a.Hi - (1 : Int)))) ∧ (gMin a0.b.Hi (IntKind.u64.wrap (a0.a.Hi - (1 : Int)))) ≤ 18446744073709551615) from ⟨(gMax_rng (by omega) (wrapU64 _)), (by omega), (by omega), (gMin_rng (by omega) (wrapU64 _))⟩))

set_option maxHeartbeats 4000000 in
theorem span_work_plain_19_any (a0 : Twork)   (w : World)  (_h_a0 : (0 ≤ a0.a.Lo ∧ a0.a.Lo ≤ 18446744073709551615) ∧ (0 ≤ a0.a.Hi ∧ a0.a.Hi ≤ 18446744073709551615) ∧ (0 ≤ a0.b.Lo ∧ a0.b.Lo ≤ 18446744073709551615) ∧ (0 ≤ a0.b.Hi ∧ a0.b.Hi ≤ 18446744073709551615) ∧ (0 ≤ a0.most ∧ a0.most ≤ 18446744073709551615) ∧ (0 ≤ a0.size ∧ a0.size ≤ 18446744073709551615))  : Calls Try.prog 93 #[.agg #[.int .u64 a0.a.Lo, .int .u64 a0.a.Hi, .int .u64 a0.b.Lo, .int .u64 a0.b.Hi, .bool a0.narrow, .int .u64 a0.most, .int .u64 a0.size], .int .u8 (19 : Int)] w (RetP w (.iface 76 (.agg #[])) (((span_work_plain_19 a0)).map fun r : (TSpan × TSpan) => (.tuple #[.agg #[.int .u64 r.1.Lo, .int .u64 r.1.Hi], .agg #[.int .u64 r.2.Lo, .int .u64 r.2.Hi]] : Value))) := by
 have hs := span_work_plain_19.eq_1 a0
 refine calls_of_CW Try.func93 rfl (n := 130) Try.ntmps93 (by kernel_rfl) [0, 1] (F := [(0, .agg #[.int .u64 a0.a.Lo, .int .u64 a0.a.Hi, .int .u64 a0.b.Lo, .int .u64 a0.b.Hi, .bool a0.narrow, .int .u64 a0.most, .int .u64 a0.size]), (1, .int .u8 19)]) (by kernel_rfl) ?_
 refine CW.seq fun K1 hK1 => ?_
 refine CW.region ?_
 refine WR.box (dst := some 2) (e := 79) (v := .agg #[.int .u64 a0.a.Lo, .int .u64 a0.a.Hi, .int .u64 a0.b.Lo, .int .u64 a0.b.Hi, .bool a0.narrow, .int .u64 a0.most, .int .u64 a0.size]) (by kernel_rfl) #[.int .u64 a0.a.Lo, .int .u64 a0.a.Hi, .int .u64 a0.b.Lo, .int .u64 a0.b.Hi, .bool a0.narrow, .int .u64 a0.most, .int .u64 a0.size] (by kernel_rfl) ?_
 intro g2 w3 hN4
 have hf6 : w.heap.size ≤ g2 := hN4.fresh
 have hfr8 := hN4.fresh
 have hc7 := hN4.chg
 have hz10 := hc7.size
 have hC9 := (Chg.refl [] w).pure hc7
 have hb5 := hN4.blk
 have hg11 := hb5.lt
 refine WR.alloc (dst := some 4) (e := 25) (by kernel_rfl) #[.int .u64 0, .int .u64 0] (by kernel_rfl) ?_
 intro g12 w13 hN14
 have hl17 : g2 < g12 := Nat.lt_of_lt_of_le hb5.lt hN14.fresh
 have hf16 : w.heap.size ≤ g12 := Nat.le_trans hC9.size hN14.fresh
 have hfr19 := hN14.fresh
 have hc18 := hN14.chg
 have hz21 := hc18.size
 have hC20 := hC9.pure hc18
 have hb22 := hb5.pure hc18
 have hb15 := hN14.blk
 have hg23 := hb15.lt
 refine WR.alloc (dst := some 5) (e := 25) (by kernel_rfl) #[.int .u64 0, .int .u64 0] (by kernel_rfl) ?_
 intro g24 w25 hN26
 have hl29 : g2 < g24 := Nat.lt_of_lt_of_le hb22.lt hN26.fresh
 have hl30 : g12 < g24 := Nat.lt_of_lt_of_le hb15.lt hN26.fresh
 have hf28 : w.heap.size ≤ g24 := Nat.le_trans hC20.size hN26.fresh
 have hfr32 := hN26.fresh
 have hc31 := hN26.chg
 have hz34 := hc31.size
 have hC33 := hC20.pure hc31
 have hb35 := hb22.pure hc31
 have hb36 := hb15.pure hc31
 have hb27 := hN26.blk
 have hg37 := hb27.lt
 refine WR.fin (by kernel_rfl) ?_
 refine go hK1 ?_
 refine CW.seq fun K38 hK38 => ?_
 refine CW.seq fun K39 hK39 => ?_
 refine CW.region ?_
 refine WR.batch 1 [(2, pt g2 0), (4, pt g12 0), (5, pt g24 0), (8, .int .u8 19)] (by kernel_rfl) ?_
 refine WR.fin (by kernel_rfl) ?_
 refine go hK39 ?_
 refine CW.block ?_
 refine CW.seq fun K40 hK40 => ?_
 refine CW.region ?_
 refine WR.batch 2 [(2, pt g2 0), (4, pt g12 0), (5, pt g24 0), (8, .int .u8 19), (9, .bool false)] (by kernel_rfl) ?_
 refine WR.fin (by kernel_rfl) ?_
 refine go hK40 ?_
 refine CW.no (by kernel_rfl) ?_
 refine CW.seq fun K41 hK41 => ?_
 refine CW.region ?_
 refine WR.batch 2 [(2, pt g2 0), (4, pt g12 0), (5, pt g24 0), (8, .int .u8 19), (23, .bool false)] (by kernel_rfl) ?_
 refine WR.fin (by kernel_rfl) ?_
 refine go hK41 ?_
 refine CW.no (by kernel_rfl) ?_
 refine CW.seq fun K42 hK42 => ?_
 refine CW.region ?_
 refine WR.batch 2 [(2, pt g2 0), (4, pt g12 0), (5, pt g24 0), (8, .int .u8 19), (46, .bool true)] (by kernel_rfl) ?_
 refine WR.fin (by kernel_rfl) ?_
 refine go hK42 ?_
 refine CW.yes (by kernel_rfl) ?_
 refine CW.seq fun K43 hK43 => ?_
 refine CW.region ?_
 refine WR.batch 2 [(2, pt g2 0), (4, pt g12 0), (5, pt g24 0), (49, pt g2 1)] (by kernel_rfl) ?_
 refine WR.load (dst := some 50) (t := 23) (o := 1) hb35 (by kernel_rfl) (.int .u64 a0.a.Hi) (by kernel_rfl) ?_
 refine WR.batch 2 [(2, pt g2 0), (4, pt g12 0), (5, pt g24 0), (50, .int .u64 a0.a.Hi), (52, pt g2 2)] (by kernel_rfl) ?_
 refine WR.load (dst := some 53) (t := 23) (o := 2) hb35 (by kernel_rfl) (.int .u64 a0.b.Lo) (by kernel_rfl) ?_
 refine WR.batch 1 [(2, pt g2 0), (4, pt g12 0), (5, pt g24 0), (54, .bool (decide (a0.a.Hi > a0.b.Lo)))] (by kernel_rfl) ?_
 rcases hx45 : span_must (decide (a0.a.Hi > a0.b.Lo)) with _ | x44
 ·
  have hs48 := optN hx45 hs
  refine WR.callX (dst := some 55) (by kernel_rfl) (retP_no (g := fun r : Unit => (.tuple #[] : Value)) hx45 (span_must_any (decide (a0.a.Hi > a0.b.Lo)) w25  )) ?_
  intro w46 hc47
  have hz50 := hc47.size
  have hC49 := hC33.pure hc47
  have hb51 := hb35.pure hc47
  have hb52 := hb36.pure hc47
  have hb53 := hb27.pure hc47
  exact panicV (P := Try.prog) (fn := Try.f93) (retP_pan hs48 hC49)
 have hs54 := optS hx45 hs
 refine WR.call (dst := some 55) (by kernel_rfl) (retP_yes (g := fun r : Unit => (.tuple #[] : Value)) hx45 (span_must_any (decide (a0.a.Hi > a0.b.Lo)) w25  )) ?_
 rintro _ w55 hc56 rfl
 have hz58 := hc56.size
 have hC57 := hC33.pure hc56
 have hb59 := hb35.pure hc56
 have hb60 := hb36.pure hc56
 have hb61 := hb27.pure hc56
 refine WR.fin (by kernel_rfl) ?_
 refine go hK43 ?_
 refine CW.seq fun K62 hK62 => ?_
 refine CW.keep [2, 4, 5] (F' := [(2, pt g2 0), (4, pt g12 0), (5, pt g24 0)]) (by kernel_rfl) ?_
 refine CW.regionG 25 [some (pt g2 0), some (pt g2 0), some (.int .u64 a0.a.Lo), some (pt g2 2), some (pt g2 2), some (.int .u64 a0.b.Lo), some (.int .u64 (IntKind.u64.wrap (a0.b.Lo + (1 : Int)))), some (.int .u64 (gMax a0.a.Lo (IntKind.u64.wrap (a0.b.Lo + (1 : Int))))), some (pt g2 0), some (pt g2 1), some (.int .u64 a0.a.Hi), some (.agg #[.int .u64 (gMax a0.a.Lo (IntKind.u64.wrap (a0.b.Lo + (1 : Int)))), .int .u64 a0.a.Hi]), some (pt g2 2), some (pt g2 2), some (.int .u64 a0.b.Lo), some (pt g2 2), some (pt g2 3), some (.int .u64 a0.b.Hi), some (pt g2 0), some (pt g2 1), some (.int .u64 a0.a.Hi), some (.int .u64 (IntKind.u64.wrap (a0.a.Hi - (1 : Int)))), some (.int .u64 (gMin a0.b.Hi (IntKind.u64.wrap (a0.a.Hi - (1 : Int))))), some (.agg #[.int .u64 a0.b.Lo, .int .u64 (gMin a0.b.Hi (IntKind.u64.wrap (a0.a.Hi - (1 : Int))))]), none] (fun u => [(56, pt g2 0), (57, pt g2 0), (58, .int .u64 a0.a.Lo), (59, pt g2 2), (60, pt g2 2), (61, .int .u64 a0.b.Lo), (62, .int .u64 (IntKind.u64.wrap (a0.b.Lo + (1 : Int)))), (63, .int .u64 (gMax a0.a.Lo (IntKind.u64.wrap (a0.b.Lo + (1 : Int))))), (64, pt g2 0), (65, pt g2 1), (66, .int .u64 a0.a.Hi), (67, .agg #[.int .u64 (gMax a0.a.Lo (IntKind.u64.wrap (a0.b.Lo + (1 : Int)))), .int .u64 a0.a.Hi]), (68, pt g2 2), (69, pt g2 2), (70, .int .u64 a0.b.Lo), (71, pt g2 2), (72, pt g2 3), (73, .int .u64 a0.b.Hi), (74, pt g2 0), (75, pt g2 1), (76, .int .u64 a0.a.Hi), (77, .int .u64 (IntKind.u64.wrap (a0.a.Hi - (1 : Int)))), (78, .int .u64 (gMin a0.b.Hi (IntKind.u64.wrap (a0.a.Hi - (1 : Int))))), (79, .agg #[.int .u64 a0.b.Lo, .int .u64 (gMin a0.b.Hi (IntKind.u64.wrap (a0.a.Hi - (1 : Int))))]), (2, pt g2 0), (4, pt g12 0), (5, pt g24 0)]) (fun _ => by kernel_rfl) (by kernel_rfl) [(24, g12)] (fun i w' => match i with | 0 => True | 1 => True | 2 => True | 3 => True | 4 => True | 5 => True | 6 => True | 7 => True | 8 => True | 9 => True | 10 => True | 11 => True | 12 => True | 13 => True | 14 => True | 15 => True | 16 => True | 17 => True | 18 => True | 19 => True | 20 => True | 21 => True | 22 => True | 23 => True | 24 => Blk w' g12 #[.int .u64 0, .int .u64 0] 25 | _ => True) (fun j => match j with | 0 => trivial | 1 => trivial | 2 => trivial | 3 => trivial | 4 => trivial | 5 => trivial | 6 => trivial | 7 => trivial | 8 => trivial | 9 => trivial | 10 => trivial | 11 => trivial | 12 => trivial | 13 => trivial | 14 => trivial | 15 => trivial | 16 => trivial | 17 => trivial | 18 => trivial | 19 => trivial | 20 => trivial | 21 => trivial | 22 => trivial | 23 => trivial | 24 => hb60.pure (Chg.drew w55) | j + 25 => trivial) ?_ [] [] (by kernel_rfl) (fun w' => Chg [g12] w55 w') (fun i v w' => match i with | 0 => True | 1 => True | 2 => True | 3 => True | 4 => True | 5 => True | 6 => True | 7 => True | 8 => True | 9 => True | 10 => True | 11 => True | 12 => True | 13 => True | 14 => True | 15 => True | 16 => True | 17 => True | 18 => True | 19 => True | 20 => True | 21 => True | 22 => True | 23 => True | 24 => Blk w' g12 #[.int .u64 (gMax a0.a.Lo (IntKind.u64.wrap (a0.b.Lo + (1 : Int)))), .int .u64 a0.a.Hi] 25 | _ => True) (fun j x w hj h => absurd hj (by simp)) (by kernel_rfl) (by kernel_rfl) (by kernel_rfl) (by kernel_rfl) ((Chg.drew w55).weak (by simp)) (fun _ _ _ h h' => h.step h' (fun t ht => .inl (cL_sub t ht))) ?_ (obsG_batch 2 0 23 (fun _ _ => by kernel_rfl) (by kernel_rfl) ⟨?_, (obsG_batch 2 3 20 (fun _ _ => by kernel_rfl) (by kernel_rfl) ⟨?_, (obsG_batch 4 6 15 (fun _ _ => by kernel_rfl) (by kernel_rfl) ⟨?_, (obsG_batch 3 11 11 (fun _ _ => by kernel_rfl) (by kernel_rfl) ⟨?_, (obsG_batch 2 15 8 (fun _ _ => by kernel_rfl) (by kernel_rfl) ⟨?_, (obsG_batch 2 18 5 (fun _ _ => by kernel_rfl) (by kernel_rfl) ⟨?_, (obsG_batch 3 21 1 (fun _ _ => by kernel_rfl) (by kernel_rfl) ⟨?_, trivial⟩)⟩)⟩)⟩)⟩)⟩)⟩) ?_
 ·
  intro i j w1 w2 hij h hc
  match j, hij, h with
  | 0, hij, h => exact trivial
  | 1, hij, h => exact trivial
  | 2, hij, h => exact trivial
  | 3, hij, h => exact trivial
  | 4, hij, h => exact trivial
  | 5, hij, h => exact trivial
  | 6, hij, h => exact trivial
  | 7, hij, h => exact trivial
  | 8, hij, h => exact trivial
  | 9, hij, h => exact trivial
  | 10, hij, h => exact trivial
  | 11, hij, h => exact trivial
  | 12, hij, h => exact trivial
  | 13, hij, h => exact trivial
  | 14, hij, h => exact trivial
  | 15, hij, h => exact trivial
  | 16, hij, h => exact trivial
  | 17, hij, h => exact trivial
  | 18, hij, h => exact trivial
  | 19, hij, h => exact trivial
  | 20, hij, h => exact trivial
  | 21, hij, h => exact trivial
  | 22, hij, h => exact trivial
  | 23, hij, h => exact trivial
  | 24, hij, h => exact h.chg hc (cL_not (by intro p hp e; simp only [List.mem_cons, List.not_mem_nil, or_false] at hp; rcases hp with rfl <;> (simp only at e ⊢; omega)))
  | n + 25, _, _ => trivial
 ·
  intro i j v w1 w2 hij h hc
  match j, hij, h with
  | 0, _, _ => trivial
  | 1, _, _ => trivial
  | 2, _, _ => trivial
  | 3, _, _ => trivial
  | 4, _, _ => trivial
  | 5, _, _ => trivial
  | 6, _, _ => trivial
  | 7, _, _ => trivial
  | 8, _, _ => trivial
  | 9, _, _ => trivial
  | 10, _, _ => trivial
  | 11, _, _ => trivial
  | 12, _, _ => trivial
  | 13, _, _ => trivial
  | 14, _, _ => trivial
  | 15, _, _ => trivial
  | 16, _, _ => trivial
  | 17, _, _ => trivial
  | 18, _, _ => trivial
  | 19, _, _ => trivial
  | 20, _, _ => trivial
  | 21, _, _ => trivial
  | 22, _, _ => trivial
  | 23, _, _ => trivial
  | 24, hij, h => exact h.chg hc (cL_not (by intro p hp e; simp only [List.mem_cons, List.not_mem_nil, or_false] at hp; rcases hp with rfl <;> (simp only at e ⊢; omega)))
  | n + 25, _, _ => trivial
 ·
  intro u63 w64 hW65 hPr68 hp66 hal67
  have hz70 := hW65.size
  have hC69 := hC57.step1 hW65 (by omega)
  have hb71 := hb59.chg1 hW65 (by omega)
  have hb72 := hb61.chg1 hW65 (by omega)
  have hb73 : Blk w64 g12 #[.int .u64 0, .int .u64 0] 25 := hPr68 24 (.inr (.one (by kernel_rfl)))
  refine WR.load (dst := some 58) (t := 23) (o := 0) hb71 (by kernel_rfl) (.int .u64 a0.a.Lo) (by kernel_rfl) ?_
  refine WR.fin (by kernel_rfl) ?_
  exact fun _ ha => ⟨Chg.refl _ _, _, ha, ⟨⟨fun h => absurd h (by decide), alNone (by decide)⟩, rfl⟩⟩
 ·
  intro u74 w75 hW76 hPr79 hp77 hal78
  have hz81 := hW76.size
  have hC80 := hC57.step1 hW76 (by omega)
  have hb82 := hb59.chg1 hW76 (by omega)
  have hb83 := hb61.chg1 hW76 (by omega)
  have hb84 : Blk w75 g12 #[.int .u64 0, .int .u64 0] 25 := hPr79 24 (.inr (.one (by kernel_rfl)))
  refine WR.load (dst := some 61) (t := 23) (o := 2) hb82 (by kernel_rfl) (.int .u64 a0.b.Lo) (by kernel_rfl) ?_
  refine WR.fin (by kernel_rfl) ?_
  exact fun _ ha => ⟨Chg.refl _ _, _, ha, ⟨⟨fun h => absurd h (by decide), alNone (by decide)⟩, rfl⟩⟩
 ·
  intro u85 w86 hW87 hPr90 hp88 hal89
  have hz92 := hW87.size
  have hC91 := hC57.step1 hW87 (by omega)
  have hb93 := hb59.chg1 hW87 (by omega)
  have hb94 := hb61.chg1 hW87 (by omega)
  have hb95 : Blk w86 g12 #[.int .u64 0, .int .u64 0] 25 := hPr90 24 (.inr (.one (by kernel_rfl)))
  refine WR.load (dst := some 66) (t := 23) (o := 1) hb93 (by kernel_rfl) (.int .u64 a0.a.Hi) (by kernel_rfl) ?_
  refine WR.fin (by kernel_rfl) ?_
  exact fun _ ha => ⟨Chg.refl _ _, _, ha, ⟨⟨fun h => absurd h (by decide), alNone (by decide)⟩, rfl⟩⟩
 ·
  intro u96 w97 hW98 _ hp99 hal100
  have hz103 := hW98.size
  have hC102 := hC57.step1 hW98 (by omega)
  have hb104 := hb59.chg1 hW98 (by omega)
  have hb105 := hb61.chg1 hW98 (by omega)
  refine WR.load (dst := some 70) (t := 23) (o := 2) hb104 (by kernel_rfl) (.int .u64 a0.b.Lo) (by kernel_rfl) ?_
  refine WR.fin (by kernel_rfl) ?_
  exact fun _ ha => ⟨Chg.refl _ _, _, ha, ⟨⟨fun h => absurd h (by decide), alNone (by decide)⟩, rfl⟩⟩
 ·
  intro u106 w107 hW108 _ hp109 hal110
  have hz113 := hW108.size
  have hC112 := hC57.step1 hW108 (by omega)
  have hb114 := hb59.chg1 hW108 (by omega)
  have hb115 := hb61.chg1 hW108 (by omega)
  refine WR.load (dst := some 73) (t := 23) (o := 3) hb114 (by kernel_rfl) (.int .u64 a0.b.Hi) (by kernel_rfl) ?_
  refine WR.fin (by kernel_rfl) ?_
  exact fun _ ha => ⟨Chg.refl _ _, _, ha, ⟨⟨fun h => absurd h (by decide), alNone (by decide)⟩, rfl⟩⟩
 ·
  intro u116 w117 hW118 _ hp119 hal120
  have hz123 := hW118.size
  have hC122 := hC57.step1 hW118 (by omega)
  have hb124 := hb59.chg1 hW118 (by omega)
  have hb125 := hb61.chg1 hW118 (by omega)
  refine WR.load (dst := some 76) (t := 23) (o := 1) hb124 (by kernel_rfl) (.int .u64 a0.a.Hi) (by kernel_rfl) ?_
  refine WR.fin (by kernel_rfl) ?_
  exact fun _ ha => ⟨Chg.refl _ _, _, ha, ⟨⟨fun h => absurd h (by decide), alNone (by decide)⟩, rfl⟩⟩
 ·
  intro u126 w127 hW128 hPr131 hp129 hal130
  have hz133 := hW128.size
  have hC132 := hC57.step1 hW128 (by omega)
  have hb134 := hb59.chg1 hW128 (by omega)
  have hb135 := hb61.chg1 hW128 (by omega)
  have hb136 : Blk w127 g12 #[.int .u64 0, .int .u64 0] 25 := hPr131 24 (.inl rfl)
  refine WR.store (t := 25) (o := 0) (v := .agg #[.int .u64 (gMax a0.a.Lo (IntKind.u64.wrap (a0.b.Lo + (1 : Int)))), .int .u64 a0.a.Hi]) hb136 (by kernel_rfl) #[.int .u64 (gMax a0.a.Lo (IntKind.u64.wrap (a0.b.Lo + (1 : Int)))), .int .u64 a0.a.Hi] (by kernel_rfl) ?_
  intro w137 hb138 hc139
  have hz141 := hc139.size
  have hC140 := hC132.step1 hc139 (by omega)
  have hb142 := hb134.chg1 hc139 (by omega)
  have hb143 := hb135.chg1 hc139 (by omega)
  refine WR.fin (by kernel_rfl) ?_
  exact fun _ ha => ⟨hc139, undef, ha, ⟨⟨fun h => absurd h (by decide), alNone (by decide)⟩, hb138⟩⟩
 intro u144 w145 hW146 hr147 _ _
 have hz151 := hW146.size
 have hC150 := hC57.step1 hW146 (by omega)
 have hb152 := hb59.chg1 hW146 (by omega)
 have hb153 := hb61.chg1 hW146 (by omega)
 have hp154 : Blk w145 g12 #[.int .u64 (gMax a0.a.Lo (IntKind.u64.wrap (a0.b.Lo + (1 : Int)))), .int .u64 a0.a.Hi] 25 := hr147 24 (by omega) (by kernel_rfl)
 refine WR.keep [4, 5, 79] (F' := [(4, pt g12 0), (5, pt g24 0), (79, .agg #[.int .u64 a0.b.Lo, .int .u64 (gMin a0.b.Hi (IntKind.u64.wrap (a0.a.Hi - (1 : Int))))])]) (by kernel_rfl) ?_
 refine WR.store (t := 25) (o := 0) (v := .agg #[.int .u64 a0.b.Lo, .int .u64 (gMin a0.b.Hi (IntKind.u64.wrap (a0.a.Hi - (1 : Int))))]) hb153 (by kernel_rfl) #[.int .u64 a0.b.Lo, .int .u64 (gMin a0.b.Hi (IntKind.u64.wrap (a0.a.Hi - (1 : Int))))] (by kernel_rfl) ?_
 intro w155 hb156 hc157
 have hz159 := hc157.size
 have hC158 := hC150.step1 hc157 (by omega)
 have hb160 := hb152.chg1 hc157 (by omega)
 have hb161 := hp154.chg1 hc157 (by omega)
 refine WR.fin (by kernel_rfl) ?_
 refine go hK62 ?_
 refine CW.ret ?_
 exact retC [.agg #[.int .u64 (gMax a0.a.Lo (IntKind.u64.wrap (a0.b.Lo + (1 : Int)))), .int .u64 a0.a.Hi], .agg #[.int .u64 a0.b.Lo, .int .u64 (gMin a0.b.Hi (IntKind.u64.wrap (a0.a.Hi - (1 : Int))))]] (.tuple #[.agg #[.int .u64 (gMax a0.a.Lo (IntKind.u64.wrap (a0.b.Lo + (1 : Int)))), .int .u64 a0.a.Hi], .agg #[.int .u64 a0.b.Lo, .int .u64 (gMin a0.b.Hi (IntKind.u64.wrap (a0.a.Hi - (1 : Int))))]]) rfl ⟨resCell hb161 rfl (by kernel_rfl), resCell hb156 rfl (by kernel_rfl), trivial⟩ (retP_ret (g := (fun r : (TSpan × TSpan) => (.tuple #[.agg #[.int .u64 r.1.Lo, .int .u64 r.1.Hi], .agg #[.int .u64 r.2.Lo, .int .u64 r.2.Hi]] : Value))) hs54 rfl hC158)

def span_work_plain_20 (a0 : Twork)  : Option (TSpan × TSpan) := (optF (span_must (decide (a0.a.Hi ≥ a0.b.Lo))) (none) fun _ => some ((⟨(gMax a0.a.Lo a0.b.Lo), a0.a.Hi⟩ : TSpan), (⟨a0.b.Lo, (gMin a0.b.Hi a0.a.Hi)⟩ : TSpan)))

theorem span_work_plain_20_ok (a0 : Twork)  (_h_a0 : (0 ≤ a0.a.Lo ∧ a0.a.Lo ≤ 18446744073709551615) ∧ (0 ≤ a0.a.Hi ∧ a0.a.Hi ≤ 18446744073709551615) ∧ (0 ≤ a0.b.Lo ∧ a0.b.Lo ≤ 18446744073709551615) ∧ (0 ≤ a0.b.Hi ∧ a0.b.Hi ≤ 18446744073709551615) ∧ (0 ≤ a0.most ∧ a0.most ≤ 18446744073709551615) ∧ (0 ≤ a0.size ∧ a0.size ≤ 18446744073709551615))  : ∀ y, (span_work_plain_20 a0) = some y → (0 ≤ y.1.Lo ∧ y.1.Lo ≤ 18446744073709551615) ∧ (0 ≤ y.1.Hi ∧ y.1.Hi ≤ 18446744073709551615) ∧ (0 ≤ y.2.Lo ∧ y.2.Lo ≤ 18446744073709551615) ∧ (0 ≤ y.2.Hi ∧ y.2.Hi ≤ 18446744073709551615) := by
 rw [span_work_plain_20.eq_1]
 refine optR (p := fun r : Option (TSpan × TSpan) => ∀ y, r = some y → (0 ≤ y.1.Lo ∧ y.1.Lo ≤ 18446744073709551615) ∧ (0 ≤ y.1.Hi ∧ y.1.Hi ≤ 18446744073709551615) ∧ (0 ≤ y.2.Lo ∧ y.2.Lo ≤ 18446744073709551615) ∧ (0 ≤ y.2.Hi ∧ y.2.Hi ≤ 18446744073709551615)) (fun _ => ?_) (fun x45 _ => ?_)
 ·
  intro y hy; cases hy
 intro y hy; cases hy; exact (by exact (show (0 ≤ (gMax a0.a.Lo a0.b.Lo) ∧ (gMax a0.a.Lo a0.b.Lo) ≤ 18446744073709551615) ∧ (0 ≤ a0.a.Hi ∧ a0.a.Hi ≤ 18446744073709551615) ∧ (0 ≤ a0.b.Lo ∧ a0.b.Lo ≤ 18446744073709551615) ∧ (0 ≤ (gMin a0.b.Hi a0.a.Hi) ∧ (gMin a0.b.Hi a0.a.Hi) ≤ 18446744073709551615) from ⟨(gMax_rng (by omega) (by omega)), (by omega), (by omega), (gMin_rng (by omega) (by omega))⟩))

set_option maxHeartbeats 4000000 in
theorem span_work_plain_20_any (a0 : Twork)   (w : World)  (_h_a0 : (0 ≤ a0.a.Lo ∧ a0.a.Lo ≤ 18446744073709551615) ∧ (0 ≤ a0.a.Hi ∧ a0.a.Hi ≤ 18446744073709551615) ∧ (0 ≤ a0.b.Lo ∧ a0.b.Lo ≤ 18446744073709551615) ∧ (0 ≤ a0.b.Hi ∧ a0.b.Hi ≤ 18446744073709551615) ∧ (0 ≤ a0.most ∧ a0.most ≤ 18446744073709551615) ∧ (0 ≤ a0.size ∧ a0.size ≤ 18446744073709551615))  : Calls Try.prog 93 #[.agg #[.int .u64 a0.a.Lo, .int .u64 a0.a.Hi, .int .u64 a0.b.Lo, .int .u64 a0.b.Hi, .bool a0.narrow, .int .u64 a0.most, .int .u64 a0.size], .int .u8 (20 : Int)] w (RetP w (.iface 76 (.agg #[])) (((span_work_plain_20 a0)).map fun r : (TSpan × TSpan) => (.tuple #[.agg #[.int .u64 r.1.Lo, .int .u64 r.1.Hi], .agg #[.int .u64 r.2.Lo, .int .u64 r.2.Hi]] : Value))) := by
 have hs := span_work_plain_20.eq_1 a0
 refine calls_of_CW Try.func93 rfl (n := 130) Try.ntmps93 (by kernel_rfl) [0, 1] (F := [(0, .agg #[.int .u64 a0.a.Lo, .int .u64 a0.a.Hi, .int .u64 a0.b.Lo, .int .u64 a0.b.Hi, .bool a0.narrow, .int .u64 a0.most, .int .u64 a0.size]), (1, .int .u8 20)]) (by kernel_rfl) ?_
 refine CW.seq fun K1 hK1 => ?_
 refine CW.region ?_
 refine WR.box (dst := some 2) (e := 79) (v := .agg #[.int .u64 a0.a.Lo, .int .u64 a0.a.Hi, .int .u64 a0.b.Lo, .int .u64 a0.b.Hi, .bool a0.narrow, .int .u64 a0.most, .int .u64 a0.size]) (by kernel_rfl) #[.int .u64 a0.a.Lo, .int .u64 a0.a.Hi, .int .u64 a0.b.Lo, .int .u64 a0.b.Hi, .bool a0.narrow, .int .u64 a0.most, .int .u64 a0.size] (by kernel_rfl) ?_
 intro g2 w3 hN4
 have hf6 : w.heap.size ≤ g2 := hN4.fresh
 have hfr8 := hN4.fresh
 have hc7 := hN4.chg
 have hz10 := hc7.size
 have hC9 := (Chg.refl [] w).pure hc7
 have hb5 := hN4.blk
 have hg11 := hb5.lt
 refine WR.alloc (dst := some 4) (e := 25) (by kernel_rfl) #[.int .u64 0, .int .u64 0] (by kernel_rfl) ?_
 intro g12 w13 hN14
 have hl17 : g2 < g12 := Nat.lt_of_lt_of_le hb5.lt hN14.fresh
 have hf16 : w.heap.size ≤ g12 := Nat.le_trans hC9.size hN14.fresh
 have hfr19 := hN14.fresh
 have hc18 := hN14.chg
 have hz21 := hc18.size
 have hC20 := hC9.pure hc18
 have hb22 := hb5.pure hc18
 have hb15 := hN14.blk
 have hg23 := hb15.lt
 refine WR.alloc (dst := some 5) (e := 25) (by kernel_rfl) #[.int .u64 0, .int .u64 0] (by kernel_rfl) ?_
 intro g24 w25 hN26
 have hl29 : g2 < g24 := Nat.lt_of_lt_of_le hb22.lt hN26.fresh
 have hl30 : g12 < g24 := Nat.lt_of_lt_of_le hb15.lt hN26.fresh
 have hf28 : w.heap.size ≤ g24 := Nat.le_trans hC20.size hN26.fresh
 have hfr32 := hN26.fresh
 have hc31 := hN26.chg
 have hz34 := hc31.size
 have hC33 := hC20.pure hc31
 have hb35 := hb22.pure hc31
 have hb36 := hb15.pure hc31
 have hb27 := hN26.blk
 have hg37 := hb27.lt
 refine WR.fin (by kernel_rfl) ?_
 refine go hK1 ?_
 refine CW.seq fun K38 hK38 => ?_
 refine CW.seq fun K39 hK39 => ?_
 refine CW.region ?_
 refine WR.batch 1 [(2, pt g2 0), (4, pt g12 0), (5, pt g24 0), (8, .int .u8 20)] (by kernel_rfl) ?_
 refine WR.fin (by kernel_rfl) ?_
 refine go hK39 ?_
 refine CW.block ?_
 refine CW.seq fun K40 hK40 => ?_
 refine CW.region ?_
 refine WR.batch 2 [(2, pt g2 0), (4, pt g12 0), (5, pt g24 0), (8, .int .u8 20), (9, .bool false)] (by kernel_rfl) ?_
 refine WR.fin (by kernel_rfl) ?_
 refine go hK40 ?_
 refine CW.no (by kernel_rfl) ?_
 refine CW.seq fun K41 hK41 => ?_
 refine CW.region ?_
 refine WR.batch 2 [(2, pt g2 0), (4, pt g12 0), (5, pt g24 0), (8, .int .u8 20), (23, .bool false)] (by kernel_rfl) ?_
 refine WR.fin (by kernel_rfl) ?_
 refine go hK41 ?_
 refine CW.no (by kernel_rfl) ?_
 refine CW.seq fun K42 hK42 => ?_
 refine CW.region ?_
 refine WR.batch 2 [(2, pt g2 0), (4, pt g12 0), (5, pt g24 0), (8, .int .u8 20), (46, .bool false)] (by kernel_rfl) ?_
 refine WR.fin (by kernel_rfl) ?_
 refine go hK42 ?_
 refine CW.no (by kernel_rfl) ?_
 refine CW.seq fun K43 hK43 => ?_
 refine CW.region ?_
 refine WR.batch 2 [(2, pt g2 0), (4, pt g12 0), (5, pt g24 0), (8, .int .u8 20), (80, .bool true)] (by kernel_rfl) ?_
 refine WR.fin (by kernel_rfl) ?_
 refine go hK43 ?_
 refine CW.yes (by kernel_rfl) ?_
 refine CW.seq fun K44 hK44 => ?_
 refine CW.region ?_
 refine WR.batch 2 [(2, pt g2 0), (4, pt g12 0), (5, pt g24 0), (83, pt g2 1)] (by kernel_rfl) ?_
 refine WR.load (dst := some 84) (t := 23) (o := 1) hb35 (by kernel_rfl) (.int .u64 a0.a.Hi) (by kernel_rfl) ?_
 refine WR.batch 2 [(2, pt g2 0), (4, pt g12 0), (5, pt g24 0), (84, .int .u64 a0.a.Hi), (86, pt g2 2)] (by kernel_rfl) ?_
 refine WR.load (dst := some 87) (t := 23) (o := 2) hb35 (by kernel_rfl) (.int .u64 a0.b.Lo) (by kernel_rfl) ?_
 refine WR.batch 1 [(2, pt g2 0), (4, pt g12 0), (5, pt g24 0), (88, .bool (decide (a0.a.Hi ≥ a0.b.Lo)))] (by kernel_rfl) ?_
 rcases hx46 : span_must (decide (a0.a.Hi ≥ a0.b.Lo)) with _ | x45
 ·
  have hs49 := optN hx46 hs
  refine WR.callX (dst := some 89) (by kernel_rfl) (retP_no (g := fun r : Unit => (.tuple #[] : Value)) hx46 (span_must_any (decide (a0.a.Hi ≥ a0.b.Lo)) w25  )) ?_
  intro w47 hc48
  have hz51 := hc48.size
  have hC50 := hC33.pure hc48
  have hb52 := hb35.pure hc48
  have hb53 := hb36.pure hc48
  have hb54 := hb27.pure hc48
  exact panicV (P := Try.prog) (fn := Try.f93) (retP_pan hs49 hC50)
 have hs55 := optS hx46 hs
 refine WR.call (dst := some 89) (by kernel_rfl) (retP_yes (g := fun r : Unit => (.tuple #[] : Value)) hx46 (span_must_any (decide (a0.a.Hi ≥ a0.b.Lo)) w25  )) ?_
 rintro _ w56 hc57 rfl
 have hz59 := hc57.size
 have hC58 := hC33.pure hc57
 have hb60 := hb35.pure hc57
 have hb61 := hb36.pure hc57
 have hb62 := hb27.pure hc57
 refine WR.fin (by kernel_rfl) ?_
 refine go hK44 ?_
 refine CW.seq fun K63 hK63 => ?_
 refine CW.keep [2, 4, 5] (F' := [(2, pt g2 0), (4, pt g12 0), (5, pt g24 0)]) (by kernel_rfl) ?_
 refine CW.regionG 23 [some (pt g2 0), some (pt g2 0), some (.int .u64 a0.a.Lo), some (pt g2 2), some (pt g2 2), some (.int .u64 a0.b.Lo), some (.int .u64 (gMax a0.a.Lo a0.b.Lo)), some (pt g2 0), some (pt g2 1), some (.int .u64 a0.a.Hi), some (.agg #[.int .u64 (gMax a0.a.Lo a0.b.Lo), .int .u64 a0.a.Hi]), some (pt g2 2), some (pt g2 2), some (.int .u64 a0.b.Lo), some (pt g2 2), some (pt g2 3), some (.int .u64 a0.b.Hi), some (pt g2 0), some (pt g2 1), some (.int .u64 a0.a.Hi), some (.int .u64 (gMin a0.b.Hi a0.a.Hi)), some (.agg #[.int .u64 a0.b.Lo, .int .u64 (gMin a0.b.Hi a0.a.Hi)]), none] (fun u => [(90, pt g2 0), (91, pt g2 0), (92, .int .u64 a0.a.Lo), (93, pt g2 2), (94, pt g2 2), (95, .int .u64 a0.b.Lo), (96, .int .u64 (gMax a0.a.Lo a0.b.Lo)), (97, pt g2 0), (98, pt g2 1), (99, .int .u64 a0.a.Hi), (100, .agg #[.int .u64 (gMax a0.a.Lo a0.b.Lo), .int .u64 a0.a.Hi]), (101, pt g2 2), (102, pt g2 2), (103, .int .u64 a0.b.Lo), (104, pt g2 2), (105, pt g2 3), (106, .int .u64 a0.b.Hi), (107, pt g2 0), (108, pt g2 1), (109, .int .u64 a0.a.Hi), (110, .int .u64 (gMin a0.b.Hi a0.a.Hi)), (111, .agg #[.int .u64 a0.b.Lo, .int .u64 (gMin a0.b.Hi a0.a.Hi)]), (2, pt g2 0), (4, pt g12 0), (5, pt g24 0)]) (fun _ => by kernel_rfl) (by kernel_rfl) [(22, g12)] (fun i w' => match i with | 0 => True | 1 => True | 2 => True | 3 => True | 4 => True | 5 => True | 6 => True | 7 => True | 8 => True | 9 => True | 10 => True | 11 => True | 12 => True | 13 => True | 14 => True | 15 => True | 16 => True | 17 => True | 18 => True | 19 => True | 20 => True | 21 => True | 22 => Blk w' g12 #[.int .u64 0, .int .u64 0] 25 | _ => True) (fun j => match j with | 0 => trivial | 1 => trivial | 2 => trivial | 3 => trivial | 4 => trivial | 5 => trivial | 6 => trivial | 7 => trivial | 8 => trivial | 9 => trivial | 10 => trivial | 11 => trivial | 12 => trivial | 13 => trivial | 14 => trivial | 15 => trivial | 16 => trivial | 17 => trivial | 18 => trivial | 19 => trivial | 20 => trivial | 21 => trivial | 22 => hb61.pure (Chg.drew w56) | j + 23 => trivial) ?_ [] [] (by kernel_rfl) (fun w' => Chg [g12] w56 w') (fun i v w' => match i with | 0 => True | 1 => True | 2 => True | 3 => True | 4 => True | 5 => True | 6 => True | 7 => True | 8 => True | 9 => True | 10 => True | 11 => True | 12 => True | 13 => True | 14 => True | 15 => True | 16 => True | 17 => True | 18 => True | 19 => True | 20 => True | 21 => True | 22 => Blk w' g12 #[.int .u64 (gMax a0.a.Lo a0.b.Lo), .int .u64 a0.a.Hi] 25 | _ => True) (fun j x w hj h => absurd hj (by simp)) (by kernel_rfl) (by kernel_rfl) (by kernel_rfl) (by kernel_rfl) ((Chg.drew w56).weak (by simp)) (fun _ _ _ h h' => h.step h' (fun t ht => .inl (cL_sub t ht))) ?_ (obsG_batch 2 0 21 (fun _ _ => by kernel_rfl) (by kernel_rfl) ⟨?_, (obsG_batch 2 3 18 (fun _ _ => by kernel_rfl) (by kernel_rfl) ⟨?_, (obsG_batch 3 6 14 (fun _ _ => by kernel_rfl) (by kernel_rfl) ⟨?_, (obsG_batch 3 10 10 (fun _ _ => by kernel_rfl) (by kernel_rfl) ⟨?_, (obsG_batch 2 14 7 (fun _ _ => by kernel_rfl) (by kernel_rfl) ⟨?_, (obsG_batch 2 17 4 (fun _ _ => by kernel_rfl) (by kernel_rfl) ⟨?_, (obsG_batch 2 20 1 (fun _ _ => by kernel_rfl) (by kernel_rfl) ⟨?_, trivial⟩)⟩)⟩)⟩)⟩)⟩)⟩) ?_
 ·
  intro i j w1 w2 hij h hc
  match j, hij, h with
  | 0, hij, h => exact trivial
  | 1, hij, h => exact trivial
  | 2, hij, h => exact trivial
  | 3, hij, h => exact trivial
  | 4, hij, h => exact trivial
  | 5, hij, h => exact trivial
  | 6, hij, h => exact trivial
  | 7, hij, h => exact trivial
  | 8, hij, h => exact trivial
  | 9, hij, h => exact trivial
  | 10, hij, h => exact trivial
  | 11, hij, h => exact trivial
  | 12, hij, h => exact trivial
  | 13, hij, h => exact trivial
  | 14, hij, h => exact trivial
  | 15, hij, h => exact trivial
  | 16, hij, h => exact trivial
  | 17, hij, h => exact trivial
  | 18, hij, h => exact trivial
  | 19, hij, h => exact trivial
  | 20, hij, h => exact trivial
  | 21, hij, h => exact trivial
  | 22, hij, h => exact h.chg hc (cL_not (by intro p hp e; simp only [List.mem_cons, List.not_mem_nil, or_false] at hp; rcases hp with rfl <;> (simp only at e ⊢; omega)))
  | n + 23, _, _ => trivial
 ·
  intro i j v w1 w2 hij h hc
  match j, hij, h with
  | 0, _, _ => trivial
  | 1, _, _ => trivial
  | 2, _, _ => trivial
  | 3, _, _ => trivial
  | 4, _, _ => trivial
  | 5, _, _ => trivial
  | 6, _, _ => trivial
  | 7, _, _ => trivial
  | 8, _, _ => trivial
  | 9, _, _ => trivial
  | 10, _, _ => trivial
  | 11, _, _ => trivial
  | 12, _, _ => trivial
  | 13, _, _ => trivial
  | 14, _, _ => trivial
  | 15, _, _ => trivial
  | 16, _, _ => trivial
  | 17, _, _ => trivial
  | 18, _, _ => trivial
  | 19, _, _ => trivial
  | 20, _, _ => trivial
  | 21, _, _ => trivial
  | 22, hij, h => exact h.chg hc (cL_not (by intro p hp e; simp only [List.mem_cons, List.not_mem_nil, or_false] at hp; rcases hp with rfl <;> (simp only at e ⊢; omega)))
  | n + 23, _, _ => trivial
 ·
  intro u64 w65 hW66 hPr69 hp67 hal68
  have hz71 := hW66.size
  have hC70 := hC58.step1 hW66 (by omega)
  have hb72 := hb60.chg1 hW66 (by omega)
  have hb73 := hb62.chg1 hW66 (by omega)
  have hb74 : Blk w65 g12 #[.int .u64 0, .int .u64 0] 25 := hPr69 22 (.inr (.one (by kernel_rfl)))
  refine WR.load (dst := some 92) (t := 23) (o := 0) hb72 (by kernel_rfl) (.int .u64 a0.a.Lo) (by kernel_rfl) ?_
  refine WR.fin (by kernel_rfl) ?_
  exact fun _ ha => ⟨Chg.refl _ _, _, ha, ⟨⟨fun h => absurd h (by decide), alNone (by decide)⟩, rfl⟩⟩
 ·
  intro u75 w76 hW77 hPr80 hp78 hal79
  have hz82 := hW77.size
  have hC81 := hC58.step1 hW77 (by omega)
  have hb83 := hb60.chg1 hW77 (by omega)
  have hb84 := hb62.chg1 hW77 (by omega)
  have hb85 : Blk w76 g12 #[.int .u64 0, .int .u64 0] 25 := hPr80 22 (.inr (.one (by kernel_rfl)))
  refine WR.load (dst := some 95) (t := 23) (o := 2) hb83 (by kernel_rfl) (.int .u64 a0.b.Lo) (by kernel_rfl) ?_
  refine WR.fin (by kernel_rfl) ?_
  exact fun _ ha => ⟨Chg.refl _ _, _, ha, ⟨⟨fun h => absurd h (by decide), alNone (by decide)⟩, rfl⟩⟩
 ·
  intro u86 w87 hW88 hPr91 hp89 hal90
  have hz93 := hW88.size
  have hC92 := hC58.step1 hW88 (by omega)
  have hb94 := hb60.chg1 hW88 (by omega)
  have hb95 := hb62.chg1 hW88 (by omega)
  have hb96 : Blk w87 g12 #[.int .u64 0, .int .u64 0] 25 := hPr91 22 (.inr (.one (by kernel_rfl)))
  refine WR.load (dst := some 99) (t := 23) (o := 1) hb94 (by kernel_rfl) (.int .u64 a0.a.Hi) (by kernel_rfl) ?_
  refine WR.fin (by kernel_rfl) ?_
  exact fun _ ha => ⟨Chg.refl _ _, _, ha, ⟨⟨fun h => absurd h (by decide), alNone (by decide)⟩, rfl⟩⟩
 ·
  intro u97 w98 hW99 _ hp100 hal101
  have hz104 := hW99.size
  have hC103 := hC58.step1 hW99 (by omega)
  have hb105 := hb60.chg1 hW99 (by omega)
  have hb106 := hb62.chg1 hW99 (by omega)
  refine WR.load (dst := some 103) (t := 23) (o := 2) hb105 (by kernel_rfl) (.int .u64 a0.b.Lo) (by kernel_rfl) ?_
  refine WR.fin (by kernel_rfl) ?_
  exact fun _ ha => ⟨Chg.refl _ _, _, ha, ⟨⟨fun h => absurd h (by decide), alNone (by decide)⟩, rfl⟩⟩
 ·
  intro u107 w108 hW109 _ hp110 hal111
  have hz114 := hW109.size
  have hC113 := hC58.step1 hW109 (by omega)
  have hb115 := hb60.chg1 hW109 (by omega)
  have hb116 := hb62.chg1 hW109 (by omega)
  refine WR.load (dst := some 106) (t := 23) (o := 3) hb115 (by kernel_rfl) (.int .u64 a0.b.Hi) (by kernel_rfl) ?_
  refine WR.fin (by kernel_rfl) ?_
  exact fun _ ha => ⟨Chg.refl _ _, _, ha, ⟨⟨fun h => absurd h (by decide), alNone (by decide)⟩, rfl⟩⟩
 ·
  intro u117 w118 hW119 _ hp120 hal121
  have hz124 := hW119.size
  have hC123 := hC58.step1 hW119 (by omega)
  have hb125 := hb60.chg1 hW119 (by omega)
  have hb126 := hb62.chg1 hW119 (by omega)
  refine WR.load (dst := some 109) (t := 23) (o := 1) hb125 (by kernel_rfl) (.int .u64 a0.a.Hi) (by kernel_rfl) ?_
  refine WR.fin (by kernel_rfl) ?_
  exact fun _ ha => ⟨Chg.refl _ _, _, ha, ⟨⟨fun h => absurd h (by decide), alNone (by decide)⟩, rfl⟩⟩
 ·
  intro u127 w128 hW129 hPr132 hp130 hal131
  have hz134 := hW129.size
  have hC133 := hC58.step1 hW129 (by omega)
  have hb135 := hb60.chg1 hW129 (by omega)
  have hb136 := hb62.chg1 hW129 (by omega)
  have hb137 : Blk w128 g12 #[.int .u64 0, .int .u64 0] 25 := hPr132 22 (.inl rfl)
  refine WR.store (t := 25) (o := 0) (v := .agg #[.int .u64 (gMax a0.a.Lo a0.b.Lo), .int .u64 a0.a.Hi]) hb137 (by kernel_rfl) #[.int .u64 (gMax a0.a.Lo a0.b.Lo), .int .u64 a0.a.Hi] (by kernel_rfl) ?_
  intro w138 hb139 hc140
  have hz142 := hc140.size
  have hC141 := hC133.step1 hc140 (by omega)
  have hb143 := hb135.chg1 hc140 (by omega)
  have hb144 := hb136.chg1 hc140 (by omega)
  refine WR.fin (by kernel_rfl) ?_
  exact fun _ ha => ⟨hc140, undef, ha, ⟨⟨fun h => absurd h (by decide), alNone (by decide)⟩, hb139⟩⟩
 intro u145 w146 hW147 hr148 _ _
 have hz152 := hW147.size
 have hC151 := hC58.step1 hW147 (by omega)
 have hb153 := hb60.chg1 hW147 (by omega)
 have hb154 := hb62.chg1 hW147 (by omega)
 have hp155 : Blk w146 g12 #[.int .u64 (gMax a0.a.Lo a0.b.Lo), .int .u64 a0.a.Hi] 25 := hr148 22 (by omega) (by kernel_rfl)
 refine WR.keep [4, 5, 111] (F' := [(4, pt g12 0), (5, pt g24 0), (111, .agg #[.int .u64 a0.b.Lo, .int .u64 (gMin a0.b.Hi a0.a.Hi)])]) (by kernel_rfl) ?_
 refine WR.store (t := 25) (o := 0) (v := .agg #[.int .u64 a0.b.Lo, .int .u64 (gMin a0.b.Hi a0.a.Hi)]) hb154 (by kernel_rfl) #[.int .u64 a0.b.Lo, .int .u64 (gMin a0.b.Hi a0.a.Hi)] (by kernel_rfl) ?_
 intro w156 hb157 hc158
 have hz160 := hc158.size
 have hC159 := hC151.step1 hc158 (by omega)
 have hb161 := hb153.chg1 hc158 (by omega)
 have hb162 := hp155.chg1 hc158 (by omega)
 refine WR.fin (by kernel_rfl) ?_
 refine go hK63 ?_
 refine CW.ret ?_
 exact retC [.agg #[.int .u64 (gMax a0.a.Lo a0.b.Lo), .int .u64 a0.a.Hi], .agg #[.int .u64 a0.b.Lo, .int .u64 (gMin a0.b.Hi a0.a.Hi)]] (.tuple #[.agg #[.int .u64 (gMax a0.a.Lo a0.b.Lo), .int .u64 a0.a.Hi], .agg #[.int .u64 a0.b.Lo, .int .u64 (gMin a0.b.Hi a0.a.Hi)]]) rfl ⟨resCell hb162 rfl (by kernel_rfl), resCell hb157 rfl (by kernel_rfl), trivial⟩ (retP_ret (g := (fun r : (TSpan × TSpan) => (.tuple #[.agg #[.int .u64 r.1.Lo, .int .u64 r.1.Hi], .agg #[.int .u64 r.2.Lo, .int .u64 r.2.Hi]] : Value))) hs55 rfl hC159)
end Go.V
