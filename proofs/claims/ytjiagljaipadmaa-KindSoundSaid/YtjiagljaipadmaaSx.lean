import Derived.Test.YtjiagljaipadmaaProg
import Derived.Test.YtjiagljaipadmaaSr
namespace Go.V
open Go.RowKit Go.Proofs
def tab0_s : ByteArray := { data := #[0, 1, 2, 2, 3, 3, 3, 3, 4, 4, 4, 4, 4, 4, 4, 4, 5, 5, 5, 5, 5, 5, 5, 5, 5, 5, 5, 5, 5, 5, 5, 5, 6, 6, 6, 6, 6, 6, 6, 6, 6, 6, 6, 6, 6, 6, 6, 6, 6, 6, 6, 6, 6, 6, 6, 6, 6, 6, 6, 6, 6, 6, 6, 6, 7, 7, 7, 7, 7, 7, 7, 7, 7, 7, 7, 7, 7, 7, 7, 7, 7, 7, 7, 7, 7, 7, 7, 7, 7, 7, 7, 7, 7, 7, 7, 7, 7, 7, 7, 7, 7, 7, 7, 7, 7, 7, 7, 7, 7, 7, 7, 7, 7, 7, 7, 7, 7, 7, 7, 7, 7, 7, 7, 7, 7, 7, 7, 7, 8, 8, 8, 8, 8, 8, 8, 8, 8, 8, 8, 8, 8, 8, 8, 8, 8, 8, 8, 8, 8, 8, 8, 8, 8, 8, 8, 8, 8, 8, 8, 8, 8, 8, 8, 8, 8, 8, 8, 8, 8, 8, 8, 8, 8, 8, 8, 8, 8, 8, 8, 8, 8, 8, 8, 8, 8, 8, 8, 8, 8, 8, 8, 8, 8, 8, 8, 8, 8, 8, 8, 8, 8, 8, 8, 8, 8, 8, 8, 8, 8, 8, 8, 8, 8, 8, 8, 8, 8, 8, 8, 8, 8, 8, 8, 8, 8, 8, 8, 8, 8, 8, 8, 8, 8, 8, 8, 8, 8, 8, 8, 8, 8, 8, 8, 8, 8, 8, 8, 8, 8, 8, 8, 8, 8, 8, 8, 8] }
def tab0 : List Int := [0, 1, 2, 2, 3, 3, 3, 3, 4, 4, 4, 4, 4, 4, 4, 4, 5, 5, 5, 5, 5, 5, 5, 5, 5, 5, 5, 5, 5, 5, 5, 5, 6, 6, 6, 6, 6, 6, 6, 6, 6, 6, 6, 6, 6, 6, 6, 6, 6, 6, 6, 6, 6, 6, 6, 6, 6, 6, 6, 6, 6, 6, 6, 6, 7, 7, 7, 7, 7, 7, 7, 7, 7, 7, 7, 7, 7, 7, 7, 7, 7, 7, 7, 7, 7, 7, 7, 7, 7, 7, 7, 7, 7, 7, 7, 7, 7, 7, 7, 7, 7, 7, 7, 7, 7, 7, 7, 7, 7, 7, 7, 7, 7, 7, 7, 7, 7, 7, 7, 7, 7, 7, 7, 7, 7, 7, 7, 7, 8, 8, 8, 8, 8, 8, 8, 8, 8, 8, 8, 8, 8, 8, 8, 8, 8, 8, 8, 8, 8, 8, 8, 8, 8, 8, 8, 8, 8, 8, 8, 8, 8, 8, 8, 8, 8, 8, 8, 8, 8, 8, 8, 8, 8, 8, 8, 8, 8, 8, 8, 8, 8, 8, 8, 8, 8, 8, 8, 8, 8, 8, 8, 8, 8, 8, 8, 8, 8, 8, 8, 8, 8, 8, 8, 8, 8, 8, 8, 8, 8, 8, 8, 8, 8, 8, 8, 8, 8, 8, 8, 8, 8, 8, 8, 8, 8, 8, 8, 8, 8, 8, 8, 8, 8, 8, 8, 8, 8, 8, 8, 8, 8, 8, 8, 8, 8, 8, 8, 8, 8, 8, 8, 8, 8, 8, 8, 8]
theorem tab0_len : tab0.length = 256 := by decide +kernel
theorem tab0_rng (j : Nat) : 0 ≤ tab0.getD j 0 ∧ tab0.getD j 0 ≤ 255 := by
  rcases Nat.lt_or_ge j tab0.length with h | h
  · exact intsBd tab0 0 255 (by decide +kernel) h
  · rw [List.getD_eq_getElem?_getD, List.getElem?_eq_none h]; decide

def Len64 (a0 : Int)  : Int := (if decide (a0 ≥ (4294967296 : Int)) then (if decide ((sShr .u64 a0 (32 : Int)) ≥ (65536 : Int)) then (if decide ((sShr .u64 (sShr .u64 a0 (32 : Int)) (16 : Int)) ≥ (256 : Int)) then ((56 : Int) + ((tab0.getD (IntKind.u8.wrap (sShr .u64 (sShr .u64 (sShr .u64 a0 (32 : Int)) (16 : Int)) (8 : Int))).toNat 0))) else ((48 : Int) + ((tab0.getD (IntKind.u8.wrap (sShr .u64 (sShr .u64 a0 (32 : Int)) (16 : Int))).toNat 0)))) else (if decide ((sShr .u64 a0 (32 : Int)) ≥ (256 : Int)) then ((40 : Int) + ((tab0.getD (IntKind.u8.wrap (sShr .u64 (sShr .u64 a0 (32 : Int)) (8 : Int))).toNat 0))) else ((32 : Int) + ((tab0.getD (IntKind.u8.wrap (sShr .u64 a0 (32 : Int))).toNat 0))))) else (if decide (a0 ≥ (65536 : Int)) then (if decide ((sShr .u64 a0 (16 : Int)) ≥ (256 : Int)) then ((24 : Int) + ((tab0.getD (IntKind.u8.wrap (sShr .u64 (sShr .u64 a0 (16 : Int)) (8 : Int))).toNat 0))) else ((16 : Int) + ((tab0.getD (IntKind.u8.wrap (sShr .u64 a0 (16 : Int))).toNat 0)))) else (if decide (a0 ≥ (256 : Int)) then ((8 : Int) + ((tab0.getD (IntKind.u8.wrap (sShr .u64 a0 (8 : Int))).toNat 0))) else ((0 : Int) + ((tab0.getD (IntKind.u8.wrap a0).toNat 0))))))

theorem Len64_ok (a0 : Int)  (_h_a0 : IU64 a0)  : II64 (Len64 a0) := by
 rw [Len64.eq_1]
 refine iteR (p := fun r : Int => II64 r) (fun hi1001 => ?_) (fun hi1001 => ?_)
 ·
  replace hi1001 : a0 ≥ (4294967296 : Int) := (of_decide_eq_true hi1001)
  refine iteR (p := fun r : Int => II64 r) (fun hi1002 => ?_) (fun hi1002 => ?_)
  ·
   replace hi1002 : (sShr .u64 a0 (32 : Int)) ≥ (65536 : Int) := (of_decide_eq_true hi1002)
   refine iteR (p := fun r : Int => II64 r) (fun hi1003 => ?_) (fun hi1003 => ?_)
   ·
    replace hi1003 : (sShr .u64 (sShr .u64 a0 (32 : Int)) (16 : Int)) ≥ (256 : Int) := (of_decide_eq_true hi1003)
    exact (by have : 0 ≤ (tab0.getD (IntKind.u8.wrap (sShr .u64 (sShr .u64 (sShr .u64 a0 (32 : Int)) (16 : Int)) (8 : Int))).toNat 0) ∧ (tab0.getD (IntKind.u8.wrap (sShr .u64 (sShr .u64 (sShr .u64 a0 (32 : Int)) (16 : Int)) (8 : Int))).toNat 0) ≤ 255 := tab0_rng (IntKind.u8.wrap (sShr .u64 (sShr .u64 (sShr .u64 a0 (32 : Int)) (16 : Int)) (8 : Int))).toNat; exact (show II64 ((56 : Int) + ((tab0.getD (IntKind.u8.wrap (sShr .u64 (sShr .u64 (sShr .u64 a0 (32 : Int)) (16 : Int)) (8 : Int))).toNat 0))) from (by omega)))
   replace hi1003 : ¬ ((sShr .u64 (sShr .u64 a0 (32 : Int)) (16 : Int)) ≥ (256 : Int)) := (of_decide_eq_false hi1003)
   exact (by have : 0 ≤ (tab0.getD (IntKind.u8.wrap (sShr .u64 (sShr .u64 a0 (32 : Int)) (16 : Int))).toNat 0) ∧ (tab0.getD (IntKind.u8.wrap (sShr .u64 (sShr .u64 a0 (32 : Int)) (16 : Int))).toNat 0) ≤ 255 := tab0_rng (IntKind.u8.wrap (sShr .u64 (sShr .u64 a0 (32 : Int)) (16 : Int))).toNat; exact (show II64 ((48 : Int) + ((tab0.getD (IntKind.u8.wrap (sShr .u64 (sShr .u64 a0 (32 : Int)) (16 : Int))).toNat 0))) from (by omega)))
  replace hi1002 : ¬ ((sShr .u64 a0 (32 : Int)) ≥ (65536 : Int)) := (of_decide_eq_false hi1002)
  refine iteR (p := fun r : Int => II64 r) (fun hi1004 => ?_) (fun hi1004 => ?_)
  ·
   replace hi1004 : (sShr .u64 a0 (32 : Int)) ≥ (256 : Int) := (of_decide_eq_true hi1004)
   exact (by have : 0 ≤ (tab0.getD (IntKind.u8.wrap (sShr .u64 (sShr .u64 a0 (32 : Int)) (8 : Int))).toNat 0) ∧ (tab0.getD (IntKind.u8.wrap (sShr .u64 (sShr .u64 a0 (32 : Int)) (8 : Int))).toNat 0) ≤ 255 := tab0_rng (IntKind.u8.wrap (sShr .u64 (sShr .u64 a0 (32 : Int)) (8 : Int))).toNat; exact (show II64 ((40 : Int) + ((tab0.getD (IntKind.u8.wrap (sShr .u64 (sShr .u64 a0 (32 : Int)) (8 : Int))).toNat 0))) from (by omega)))
  replace hi1004 : ¬ ((sShr .u64 a0 (32 : Int)) ≥ (256 : Int)) := (of_decide_eq_false hi1004)
  exact (by have : 0 ≤ (tab0.getD (IntKind.u8.wrap (sShr .u64 a0 (32 : Int))).toNat 0) ∧ (tab0.getD (IntKind.u8.wrap (sShr .u64 a0 (32 : Int))).toNat 0) ≤ 255 := tab0_rng (IntKind.u8.wrap (sShr .u64 a0 (32 : Int))).toNat; exact (show II64 ((32 : Int) + ((tab0.getD (IntKind.u8.wrap (sShr .u64 a0 (32 : Int))).toNat 0))) from (by omega)))
 replace hi1001 : ¬ (a0 ≥ (4294967296 : Int)) := (of_decide_eq_false hi1001)
 refine iteR (p := fun r : Int => II64 r) (fun hi1005 => ?_) (fun hi1005 => ?_)
 ·
  replace hi1005 : a0 ≥ (65536 : Int) := (of_decide_eq_true hi1005)
  refine iteR (p := fun r : Int => II64 r) (fun hi1006 => ?_) (fun hi1006 => ?_)
  ·
   replace hi1006 : (sShr .u64 a0 (16 : Int)) ≥ (256 : Int) := (of_decide_eq_true hi1006)
   exact (by have : 0 ≤ (tab0.getD (IntKind.u8.wrap (sShr .u64 (sShr .u64 a0 (16 : Int)) (8 : Int))).toNat 0) ∧ (tab0.getD (IntKind.u8.wrap (sShr .u64 (sShr .u64 a0 (16 : Int)) (8 : Int))).toNat 0) ≤ 255 := tab0_rng (IntKind.u8.wrap (sShr .u64 (sShr .u64 a0 (16 : Int)) (8 : Int))).toNat; exact (show II64 ((24 : Int) + ((tab0.getD (IntKind.u8.wrap (sShr .u64 (sShr .u64 a0 (16 : Int)) (8 : Int))).toNat 0))) from (by omega)))
  replace hi1006 : ¬ ((sShr .u64 a0 (16 : Int)) ≥ (256 : Int)) := (of_decide_eq_false hi1006)
  exact (by have : 0 ≤ (tab0.getD (IntKind.u8.wrap (sShr .u64 a0 (16 : Int))).toNat 0) ∧ (tab0.getD (IntKind.u8.wrap (sShr .u64 a0 (16 : Int))).toNat 0) ≤ 255 := tab0_rng (IntKind.u8.wrap (sShr .u64 a0 (16 : Int))).toNat; exact (show II64 ((16 : Int) + ((tab0.getD (IntKind.u8.wrap (sShr .u64 a0 (16 : Int))).toNat 0))) from (by omega)))
 replace hi1005 : ¬ (a0 ≥ (65536 : Int)) := (of_decide_eq_false hi1005)
 refine iteR (p := fun r : Int => II64 r) (fun hi1007 => ?_) (fun hi1007 => ?_)
 ·
  replace hi1007 : a0 ≥ (256 : Int) := (of_decide_eq_true hi1007)
  exact (by have : 0 ≤ (tab0.getD (IntKind.u8.wrap (sShr .u64 a0 (8 : Int))).toNat 0) ∧ (tab0.getD (IntKind.u8.wrap (sShr .u64 a0 (8 : Int))).toNat 0) ≤ 255 := tab0_rng (IntKind.u8.wrap (sShr .u64 a0 (8 : Int))).toNat; exact (show II64 ((8 : Int) + ((tab0.getD (IntKind.u8.wrap (sShr .u64 a0 (8 : Int))).toNat 0))) from (by omega)))
 replace hi1007 : ¬ (a0 ≥ (256 : Int)) := (of_decide_eq_false hi1007)
 exact (by have : 0 ≤ (tab0.getD (IntKind.u8.wrap a0).toNat 0) ∧ (tab0.getD (IntKind.u8.wrap a0).toNat 0) ≤ 255 := tab0_rng (IntKind.u8.wrap a0).toNat; exact (show II64 ((0 : Int) + ((tab0.getD (IntKind.u8.wrap a0).toNat 0))) from (by omega)))

set_option maxRecDepth 100000 in
set_option maxHeartbeats 4000000 in
theorem Len64_any (a0 : Int)   (w : World)  (_h_a0 : IU64 a0)  : Calls Try.prog 139 #[.int .u64 a0] w (RetV w (.int .i64 (Len64 a0))) := by
 have hs := Len64.eq_1 a0
 refine calls_of_CW Try.func139 rfl (n := 25) Try.ntmps139 (by kernel_rfl) [0] (F := [(0, .int .u64 a0)]) (by kernel_rfl) ?_
 refine CW.seq fun K1 hK1 => ?_
 refine CW.region ?_
 refine WR.batch 1 [(0, .int .u64 a0), (2, .int .i64 0)] (by kernel_rfl) ?_
 refine WR.fin (by kernel_rfl) ?_
 refine go hK1 ?_
 refine CW.seq fun K2 hK2 => ?_
 refine CW.seq fun K3 hK3 => ?_
 refine CW.region ?_
 refine WR.batch 2 [(0, .int .u64 a0), (2, .int .i64 0), (4, .bool (decide (a0 ≥ (4294967296 : Int))))] (by kernel_rfl) ?_
 refine WR.fin (by kernel_rfl) ?_
 refine go hK3 ?_
 refine CW.cond (decide (a0 ≥ (4294967296 : Int))) (by kernel_rfl) (fun ht4 => ?_) (fun ht4 => ?_)
 ·
  have hs5 := ifT ht4 hs
  replace ht4 : a0 ≥ (4294967296 : Int) := (of_decide_eq_true ht4)
  refine CW.seq fun K6 hK6 => ?_
  refine CW.region ?_
  refine WR.batch 3 [(0, .int .u64 (sShr .u64 a0 (32 : Int)))] (by kernel_rfl) ?_
  refine WR.fin (by kernel_rfl) ?_
  refine go hK6 ?_
  refine CW.region ?_
  refine WR.batch 1 [(0, .int .u64 (sShr .u64 a0 (32 : Int))), (2, .int .i64 32)] (by kernel_rfl) ?_
  refine WR.fin (by kernel_rfl) ?_
  refine go hK2 ?_
  refine CW.seq fun K7 hK7 => ?_
  refine CW.seq fun K8 hK8 => ?_
  refine CW.region ?_
  refine WR.batch 2 [(0, .int .u64 (sShr .u64 a0 (32 : Int))), (2, .int .i64 32), (8, .bool (decide ((sShr .u64 a0 (32 : Int)) ≥ (65536 : Int))))] (by kernel_rfl) ?_
  refine WR.fin (by kernel_rfl) ?_
  refine go hK8 ?_
  refine CW.cond (decide ((sShr .u64 a0 (32 : Int)) ≥ (65536 : Int))) (by kernel_rfl) (fun ht9 => ?_) (fun ht9 => ?_)
  ·
   have hs10 := ifT ht9 hs5
   replace ht9 : (sShr .u64 a0 (32 : Int)) ≥ (65536 : Int) := (of_decide_eq_true ht9)
   refine CW.seq fun K11 hK11 => ?_
   refine CW.region ?_
   refine WR.batch 3 [(0, .int .u64 (sShr .u64 (sShr .u64 a0 (32 : Int)) (16 : Int))), (2, .int .i64 32)] (by kernel_rfl) ?_
   refine WR.fin (by kernel_rfl) ?_
   refine go hK11 ?_
   refine CW.region ?_
   refine WR.batch 3 [(0, .int .u64 (sShr .u64 (sShr .u64 a0 (32 : Int)) (16 : Int))), (2, .int .i64 48)] (by kernel_rfl) ?_
   refine WR.fin (by kernel_rfl) ?_
   refine go hK7 ?_
   refine CW.seq fun K12 hK12 => ?_
   refine CW.seq fun K13 hK13 => ?_
   refine CW.region ?_
   refine WR.batch 2 [(0, .int .u64 (sShr .u64 (sShr .u64 a0 (32 : Int)) (16 : Int))), (2, .int .i64 48), (14, .bool (decide ((sShr .u64 (sShr .u64 a0 (32 : Int)) (16 : Int)) ≥ (256 : Int))))] (by kernel_rfl) ?_
   refine WR.fin (by kernel_rfl) ?_
   refine go hK13 ?_
   refine CW.cond (decide ((sShr .u64 (sShr .u64 a0 (32 : Int)) (16 : Int)) ≥ (256 : Int))) (by kernel_rfl) (fun ht14 => ?_) (fun ht14 => ?_)
   ·
    have hs15 := ifT ht14 hs10
    replace ht14 : (sShr .u64 (sShr .u64 a0 (32 : Int)) (16 : Int)) ≥ (256 : Int) := (of_decide_eq_true ht14)
    refine CW.seq fun K16 hK16 => ?_
    refine CW.region ?_
    refine WR.batch 3 [(0, .int .u64 (sShr .u64 (sShr .u64 (sShr .u64 a0 (32 : Int)) (16 : Int)) (8 : Int))), (2, .int .i64 48)] (by kernel_rfl) ?_
    refine WR.fin (by kernel_rfl) ?_
    refine go hK16 ?_
    refine CW.region ?_
    refine WR.batch 3 [(0, .int .u64 (sShr .u64 (sShr .u64 (sShr .u64 a0 (32 : Int)) (16 : Int)) (8 : Int))), (2, .int .i64 56)] (by kernel_rfl) ?_
    refine WR.fin (by kernel_rfl) ?_
    refine go hK12 ?_
    refine CW.seq fun K17 hK17 => ?_
    refine CW.region ?_
    refine WR.batch 3 [(19, .int .i64 56), (21, .int .u8 (IntKind.u8.wrap (sShr .u64 (sShr .u64 (sShr .u64 a0 (32 : Int)) (16 : Int)) (8 : Int))))] (by kernel_rfl) ?_
    refine WR.valR (dst := some 22) (v := .int .u8 (tab0.getD (IntKind.u8.wrap (sShr .u64 (sShr .u64 (sShr .u64 a0 (32 : Int)) (16 : Int)) (8 : Int))).toNat 0)) (w' := w) (run_idxS (s := tab0_s) (t := 9) (kk := .u8) (i := (IntKind.u8.wrap (sShr .u64 (sShr .u64 (sShr .u64 a0 (32 : Int)) (16 : Int)) (8 : Int)))) tab0 (by kernel_rfl) (by kernel_rfl) (by kernel_rfl) (show IU8 (IntKind.u8.wrap (sShr .u64 (sShr .u64 (sShr .u64 a0 (32 : Int)) (16 : Int)) (8 : Int))) from (wrapU8 _)).1 (by have hh : IU8 (IntKind.u8.wrap (sShr .u64 (sShr .u64 (sShr .u64 a0 (32 : Int)) (16 : Int)) (8 : Int))) := (wrapU8 _); rw [tab0_len]; omega) w) ?_
    have hm18 : 0 ≤ (tab0.getD (IntKind.u8.wrap (sShr .u64 (sShr .u64 (sShr .u64 a0 (32 : Int)) (16 : Int)) (8 : Int))).toNat 0) ∧ (tab0.getD (IntKind.u8.wrap (sShr .u64 (sShr .u64 (sShr .u64 a0 (32 : Int)) (16 : Int)) (8 : Int))).toNat 0) ≤ 255 := tab0_rng (IntKind.u8.wrap (sShr .u64 (sShr .u64 (sShr .u64 a0 (32 : Int)) (16 : Int)) (8 : Int))).toNat
    refine WR.batch 1 [(19, .int .i64 56), (23, .int .i64 (IntKind.i64.wrap ((tab0.getD (IntKind.u8.wrap (sShr .u64 (sShr .u64 (sShr .u64 a0 (32 : Int)) (16 : Int)) (8 : Int))).toNat 0))))] (by kernel_rfl) ?_
    have hw19 : IntKind.i64.wrap ((tab0.getD (IntKind.u8.wrap (sShr .u64 (sShr .u64 (sShr .u64 a0 (32 : Int)) (16 : Int)) (8 : Int))).toNat 0)) = ((tab0.getD (IntKind.u8.wrap (sShr .u64 (sShr .u64 (sShr .u64 a0 (32 : Int)) (16 : Int)) (8 : Int))).toNat 0)) := IntWalk.i64_in _ (by omega)
    refine WR.eqF (F' := [(19, .int .i64 56), (23, .int .i64 ((tab0.getD (IntKind.u8.wrap (sShr .u64 (sShr .u64 (sShr .u64 a0 (32 : Int)) (16 : Int)) (8 : Int))).toNat 0)))]) (by rw [hw19]) ?_
    refine WR.batch 1 [(24, .int .i64 (IntKind.i64.wrap ((56 : Int) + ((tab0.getD (IntKind.u8.wrap (sShr .u64 (sShr .u64 (sShr .u64 a0 (32 : Int)) (16 : Int)) (8 : Int))).toNat 0)))))] (by kernel_rfl) ?_
    have hw20 : IntKind.i64.wrap ((56 : Int) + ((tab0.getD (IntKind.u8.wrap (sShr .u64 (sShr .u64 (sShr .u64 a0 (32 : Int)) (16 : Int)) (8 : Int))).toNat 0))) = ((56 : Int) + ((tab0.getD (IntKind.u8.wrap (sShr .u64 (sShr .u64 (sShr .u64 a0 (32 : Int)) (16 : Int)) (8 : Int))).toNat 0))) := IntWalk.i64_in _ (by omega)
    refine WR.eqF (F' := [(24, .int .i64 ((56 : Int) + ((tab0.getD (IntKind.u8.wrap (sShr .u64 (sShr .u64 (sShr .u64 a0 (32 : Int)) (16 : Int)) (8 : Int))).toNat 0))))]) (by rw [hw20]) ?_
    refine WR.batch 1 [(2, .int .i64 ((56 : Int) + ((tab0.getD (IntKind.u8.wrap (sShr .u64 (sShr .u64 (sShr .u64 a0 (32 : Int)) (16 : Int)) (8 : Int))).toNat 0))))] (by kernel_rfl) ?_
    refine WR.fin (by kernel_rfl) ?_
    refine go hK17 ?_
    refine CW.ret ?_
    exact retV (.int .i64 ((56 : Int) + ((tab0.getD (IntKind.u8.wrap (sShr .u64 (sShr .u64 (sShr .u64 a0 (32 : Int)) (16 : Int)) (8 : Int))).toNat 0)))) (by kernel_rfl) (⟨(Chg.refl _ _), (congrArg (fun r : Int => (.int .i64 r : Value)) hs15).symm⟩)
   have hs21 := ifF ht14 hs10
   replace ht14 : ¬ ((sShr .u64 (sShr .u64 a0 (32 : Int)) (16 : Int)) ≥ (256 : Int)) := (of_decide_eq_false ht14)
   refine CW.skip ?_
   refine go hK12 ?_
   refine CW.seq fun K22 hK22 => ?_
   refine CW.region ?_
   refine WR.batch 3 [(19, .int .i64 48), (21, .int .u8 (IntKind.u8.wrap (sShr .u64 (sShr .u64 a0 (32 : Int)) (16 : Int))))] (by kernel_rfl) ?_
   refine WR.valR (dst := some 22) (v := .int .u8 (tab0.getD (IntKind.u8.wrap (sShr .u64 (sShr .u64 a0 (32 : Int)) (16 : Int))).toNat 0)) (w' := w) (run_idxS (s := tab0_s) (t := 9) (kk := .u8) (i := (IntKind.u8.wrap (sShr .u64 (sShr .u64 a0 (32 : Int)) (16 : Int)))) tab0 (by kernel_rfl) (by kernel_rfl) (by kernel_rfl) (show IU8 (IntKind.u8.wrap (sShr .u64 (sShr .u64 a0 (32 : Int)) (16 : Int))) from (wrapU8 _)).1 (by have hh : IU8 (IntKind.u8.wrap (sShr .u64 (sShr .u64 a0 (32 : Int)) (16 : Int))) := (wrapU8 _); rw [tab0_len]; omega) w) ?_
   have hm23 : 0 ≤ (tab0.getD (IntKind.u8.wrap (sShr .u64 (sShr .u64 a0 (32 : Int)) (16 : Int))).toNat 0) ∧ (tab0.getD (IntKind.u8.wrap (sShr .u64 (sShr .u64 a0 (32 : Int)) (16 : Int))).toNat 0) ≤ 255 := tab0_rng (IntKind.u8.wrap (sShr .u64 (sShr .u64 a0 (32 : Int)) (16 : Int))).toNat
   refine WR.batch 1 [(19, .int .i64 48), (23, .int .i64 (IntKind.i64.wrap ((tab0.getD (IntKind.u8.wrap (sShr .u64 (sShr .u64 a0 (32 : Int)) (16 : Int))).toNat 0))))] (by kernel_rfl) ?_
   have hw24 : IntKind.i64.wrap ((tab0.getD (IntKind.u8.wrap (sShr .u64 (sShr .u64 a0 (32 : Int)) (16 : Int))).toNat 0)) = ((tab0.getD (IntKind.u8.wrap (sShr .u64 (sShr .u64 a0 (32 : Int)) (16 : Int))).toNat 0)) := IntWalk.i64_in _ (by omega)
   refine WR.eqF (F' := [(19, .int .i64 48), (23, .int .i64 ((tab0.getD (IntKind.u8.wrap (sShr .u64 (sShr .u64 a0 (32 : Int)) (16 : Int))).toNat 0)))]) (by rw [hw24]) ?_
   refine WR.batch 1 [(24, .int .i64 (IntKind.i64.wrap ((48 : Int) + ((tab0.getD (IntKind.u8.wrap (sShr .u64 (sShr .u64 a0 (32 : Int)) (16 : Int))).toNat 0)))))] (by kernel_rfl) ?_
   have hw25 : IntKind.i64.wrap ((48 : Int) + ((tab0.getD (IntKind.u8.wrap (sShr .u64 (sShr .u64 a0 (32 : Int)) (16 : Int))).toNat 0))) = ((48 : Int) + ((tab0.getD (IntKind.u8.wrap (sShr .u64 (sShr .u64 a0 (32 : Int)) (16 : Int))).toNat 0))) := IntWalk.i64_in _ (by omega)
   refine WR.eqF (F' := [(24, .int .i64 ((48 : Int) + ((tab0.getD (IntKind.u8.wrap (sShr .u64 (sShr .u64 a0 (32 : Int)) (16 : Int))).toNat 0))))]) (by rw [hw25]) ?_
   refine WR.batch 1 [(2, .int .i64 ((48 : Int) + ((tab0.getD (IntKind.u8.wrap (sShr .u64 (sShr .u64 a0 (32 : Int)) (16 : Int))).toNat 0))))] (by kernel_rfl) ?_
   refine WR.fin (by kernel_rfl) ?_
   refine go hK22 ?_
   refine CW.ret ?_
   exact retV (.int .i64 ((48 : Int) + ((tab0.getD (IntKind.u8.wrap (sShr .u64 (sShr .u64 a0 (32 : Int)) (16 : Int))).toNat 0)))) (by kernel_rfl) (⟨(Chg.refl _ _), (congrArg (fun r : Int => (.int .i64 r : Value)) hs21).symm⟩)
  have hs26 := ifF ht9 hs5
  replace ht9 : ¬ ((sShr .u64 a0 (32 : Int)) ≥ (65536 : Int)) := (of_decide_eq_false ht9)
  refine CW.skip ?_
  refine go hK7 ?_
  refine CW.seq fun K27 hK27 => ?_
  refine CW.seq fun K28 hK28 => ?_
  refine CW.region ?_
  refine WR.batch 2 [(0, .int .u64 (sShr .u64 a0 (32 : Int))), (2, .int .i64 32), (14, .bool (decide ((sShr .u64 a0 (32 : Int)) ≥ (256 : Int))))] (by kernel_rfl) ?_
  refine WR.fin (by kernel_rfl) ?_
  refine go hK28 ?_
  refine CW.cond (decide ((sShr .u64 a0 (32 : Int)) ≥ (256 : Int))) (by kernel_rfl) (fun ht29 => ?_) (fun ht29 => ?_)
  ·
   have hs30 := ifT ht29 hs26
   replace ht29 : (sShr .u64 a0 (32 : Int)) ≥ (256 : Int) := (of_decide_eq_true ht29)
   refine CW.seq fun K31 hK31 => ?_
   refine CW.region ?_
   refine WR.batch 3 [(0, .int .u64 (sShr .u64 (sShr .u64 a0 (32 : Int)) (8 : Int))), (2, .int .i64 32)] (by kernel_rfl) ?_
   refine WR.fin (by kernel_rfl) ?_
   refine go hK31 ?_
   refine CW.region ?_
   refine WR.batch 3 [(0, .int .u64 (sShr .u64 (sShr .u64 a0 (32 : Int)) (8 : Int))), (2, .int .i64 40)] (by kernel_rfl) ?_
   refine WR.fin (by kernel_rfl) ?_
   refine go hK27 ?_
   refine CW.seq fun K32 hK32 => ?_
   refine CW.region ?_
   refine WR.batch 3 [(19, .int .i64 40), (21, .int .u8 (IntKind.u8.wrap (sShr .u64 (sShr .u64 a0 (32 : Int)) (8 : Int))))] (by kernel_rfl) ?_
   refine WR.valR (dst := some 22) (v := .int .u8 (tab0.getD (IntKind.u8.wrap (sShr .u64 (sShr .u64 a0 (32 : Int)) (8 : Int))).toNat 0)) (w' := w) (run_idxS (s := tab0_s) (t := 9) (kk := .u8) (i := (IntKind.u8.wrap (sShr .u64 (sShr .u64 a0 (32 : Int)) (8 : Int)))) tab0 (by kernel_rfl) (by kernel_rfl) (by kernel_rfl) (show IU8 (IntKind.u8.wrap (sShr .u64 (sShr .u64 a0 (32 : Int)) (8 : Int))) from (wrapU8 _)).1 (by have hh : IU8 (IntKind.u8.wrap (sShr .u64 (sShr .u64 a0 (32 : Int)) (8 : Int))) := (wrapU8 _); rw [tab0_len]; omega) w) ?_
   have hm33 : 0 ≤ (tab0.getD (IntKind.u8.wrap (sShr .u64 (sShr .u64 a0 (32 : Int)) (8 : Int))).toNat 0) ∧ (tab0.getD (IntKind.u8.wrap (sShr .u64 (sShr .u64 a0 (32 : Int)) (8 : Int))).toNat 0) ≤ 255 := tab0_rng (IntKind.u8.wrap (sShr .u64 (sShr .u64 a0 (32 : Int)) (8 : Int))).toNat
   refine WR.batch 1 [(19, .int .i64 40), (23, .int .i64 (IntKind.i64.wrap ((tab0.getD (IntKind.u8.wrap (sShr .u64 (sShr .u64 a0 (32 : Int)) (8 : Int))).toNat 0))))] (by kernel_rfl) ?_
   have hw34 : IntKind.i64.wrap ((tab0.getD (IntKind.u8.wrap (sShr .u64 (sShr .u64 a0 (32 : Int)) (8 : Int))).toNat 0)) = ((tab0.getD (IntKind.u8.wrap (sShr .u64 (sShr .u64 a0 (32 : Int)) (8 : Int))).toNat 0)) := IntWalk.i64_in _ (by omega)
   refine WR.eqF (F' := [(19, .int .i64 40), (23, .int .i64 ((tab0.getD (IntKind.u8.wrap (sShr .u64 (sShr .u64 a0 (32 : Int)) (8 : Int))).toNat 0)))]) (by rw [hw34]) ?_
   refine WR.batch 1 [(24, .int .i64 (IntKind.i64.wrap ((40 : Int) + ((tab0.getD (IntKind.u8.wrap (sShr .u64 (sShr .u64 a0 (32 : Int)) (8 : Int))).toNat 0)))))] (by kernel_rfl) ?_
   have hw35 : IntKind.i64.wrap ((40 : Int) + ((tab0.getD (IntKind.u8.wrap (sShr .u64 (sShr .u64 a0 (32 : Int)) (8 : Int))).toNat 0))) = ((40 : Int) + ((tab0.getD (IntKind.u8.wrap (sShr .u64 (sShr .u64 a0 (32 : Int)) (8 : Int))).toNat 0))) := IntWalk.i64_in _ (by omega)
   refine WR.eqF (F' := [(24, .int .i64 ((40 : Int) + ((tab0.getD (IntKind.u8.wrap (sShr .u64 (sShr .u64 a0 (32 : Int)) (8 : Int))).toNat 0))))]) (by rw [hw35]) ?_
   refine WR.batch 1 [(2, .int .i64 ((40 : Int) + ((tab0.getD (IntKind.u8.wrap (sShr .u64 (sShr .u64 a0 (32 : Int)) (8 : Int))).toNat 0))))] (by kernel_rfl) ?_
   refine WR.fin (by kernel_rfl) ?_
   refine go hK32 ?_
   refine CW.ret ?_
   exact retV (.int .i64 ((40 : Int) + ((tab0.getD (IntKind.u8.wrap (sShr .u64 (sShr .u64 a0 (32 : Int)) (8 : Int))).toNat 0)))) (by kernel_rfl) (⟨(Chg.refl _ _), (congrArg (fun r : Int => (.int .i64 r : Value)) hs30).symm⟩)
  have hs36 := ifF ht29 hs26
  replace ht29 : ¬ ((sShr .u64 a0 (32 : Int)) ≥ (256 : Int)) := (of_decide_eq_false ht29)
  refine CW.skip ?_
  refine go hK27 ?_
  refine CW.seq fun K37 hK37 => ?_
  refine CW.region ?_
  refine WR.batch 3 [(19, .int .i64 32), (21, .int .u8 (IntKind.u8.wrap (sShr .u64 a0 (32 : Int))))] (by kernel_rfl) ?_
  refine WR.valR (dst := some 22) (v := .int .u8 (tab0.getD (IntKind.u8.wrap (sShr .u64 a0 (32 : Int))).toNat 0)) (w' := w) (run_idxS (s := tab0_s) (t := 9) (kk := .u8) (i := (IntKind.u8.wrap (sShr .u64 a0 (32 : Int)))) tab0 (by kernel_rfl) (by kernel_rfl) (by kernel_rfl) (show IU8 (IntKind.u8.wrap (sShr .u64 a0 (32 : Int))) from (wrapU8 _)).1 (by have hh : IU8 (IntKind.u8.wrap (sShr .u64 a0 (32 : Int))) := (wrapU8 _); rw [tab0_len]; omega) w) ?_
  have hm38 : 0 ≤ (tab0.getD (IntKind.u8.wrap (sShr .u64 a0 (32 : Int))).toNat 0) ∧ (tab0.getD (IntKind.u8.wrap (sShr .u64 a0 (32 : Int))).toNat 0) ≤ 255 := tab0_rng (IntKind.u8.wrap (sShr .u64 a0 (32 : Int))).toNat
  refine WR.batch 1 [(19, .int .i64 32), (23, .int .i64 (IntKind.i64.wrap ((tab0.getD (IntKind.u8.wrap (sShr .u64 a0 (32 : Int))).toNat 0))))] (by kernel_rfl) ?_
  have hw39 : IntKind.i64.wrap ((tab0.getD (IntKind.u8.wrap (sShr .u64 a0 (32 : Int))).toNat 0)) = ((tab0.getD (IntKind.u8.wrap (sShr .u64 a0 (32 : Int))).toNat 0)) := IntWalk.i64_in _ (by omega)
  refine WR.eqF (F' := [(19, .int .i64 32), (23, .int .i64 ((tab0.getD (IntKind.u8.wrap (sShr .u64 a0 (32 : Int))).toNat 0)))]) (by rw [hw39]) ?_
  refine WR.batch 1 [(24, .int .i64 (IntKind.i64.wrap ((32 : Int) + ((tab0.getD (IntKind.u8.wrap (sShr .u64 a0 (32 : Int))).toNat 0)))))] (by kernel_rfl) ?_
  have hw40 : IntKind.i64.wrap ((32 : Int) + ((tab0.getD (IntKind.u8.wrap (sShr .u64 a0 (32 : Int))).toNat 0))) = ((32 : Int) + ((tab0.getD (IntKind.u8.wrap (sShr .u64 a0 (32 : Int))).toNat 0))) := IntWalk.i64_in _ (by omega)
  refine WR.eqF (F' := [(24, .int .i64 ((32 : Int) + ((tab0.getD (IntKind.u8.wrap (sShr .u64 a0 (32 : Int))).toNat 0))))]) (by rw [hw40]) ?_
  refine WR.batch 1 [(2, .int .i64 ((32 : Int) + ((tab0.getD (IntKind.u8.wrap (sShr .u64 a0 (32 : Int))).toNat 0))))] (by kernel_rfl) ?_
  refine WR.fin (by kernel_rfl) ?_
  refine go hK37 ?_
  refine CW.ret ?_
  exact retV (.int .i64 ((32 : Int) + ((tab0.getD (IntKind.u8.wrap (sShr .u64 a0 (32 : Int))).toNat 0)))) (by kernel_rfl) (⟨(Chg.refl _ _), (congrArg (fun r : Int => (.int .i64 r : Value)) hs36).symm⟩)
 have hs41 := ifF ht4 hs
 replace ht4 : ¬ (a0 ≥ (4294967296 : Int)) := (of_decide_eq_false ht4)
 refine CW.skip ?_
 refine go hK2 ?_
 refine CW.seq fun K42 hK42 => ?_
 refine CW.seq fun K43 hK43 => ?_
 refine CW.region ?_
 refine WR.batch 2 [(0, .int .u64 a0), (2, .int .i64 0), (8, .bool (decide (a0 ≥ (65536 : Int))))] (by kernel_rfl) ?_
 refine WR.fin (by kernel_rfl) ?_
 refine go hK43 ?_
 refine CW.cond (decide (a0 ≥ (65536 : Int))) (by kernel_rfl) (fun ht44 => ?_) (fun ht44 => ?_)
 ·
  have hs45 := ifT ht44 hs41
  replace ht44 : a0 ≥ (65536 : Int) := (of_decide_eq_true ht44)
  refine CW.seq fun K46 hK46 => ?_
  refine CW.region ?_
  refine WR.batch 3 [(0, .int .u64 (sShr .u64 a0 (16 : Int))), (2, .int .i64 0)] (by kernel_rfl) ?_
  refine WR.fin (by kernel_rfl) ?_
  refine go hK46 ?_
  refine CW.region ?_
  refine WR.batch 3 [(0, .int .u64 (sShr .u64 a0 (16 : Int))), (2, .int .i64 16)] (by kernel_rfl) ?_
  refine WR.fin (by kernel_rfl) ?_
  refine go hK42 ?_
  refine CW.seq fun K47 hK47 => ?_
  refine CW.seq fun K48 hK48 => ?_
  refine CW.region ?_
  refine WR.batch 2 [(0, .int .u64 (sShr .u64 a0 (16 : Int))), (2, .int .i64 16), (14, .bool (decide ((sShr .u64 a0 (16 : Int)) ≥ (256 : Int))))] (by kernel_rfl) ?_
  refine WR.fin (by kernel_rfl) ?_
  refine go hK48 ?_
  refine CW.cond (decide ((sShr .u64 a0 (16 : Int)) ≥ (256 : Int))) (by kernel_rfl) (fun ht49 => ?_) (fun ht49 => ?_)
  ·
   have hs50 := ifT ht49 hs45
   replace ht49 : (sShr .u64 a0 (16 : Int)) ≥ (256 : Int) := (of_decide_eq_true ht49)
   refine CW.seq fun K51 hK51 => ?_
   refine CW.region ?_
   refine WR.batch 3 [(0, .int .u64 (sShr .u64 (sShr .u64 a0 (16 : Int)) (8 : Int))), (2, .int .i64 16)] (by kernel_rfl) ?_
   refine WR.fin (by kernel_rfl) ?_
   refine go hK51 ?_
   refine CW.region ?_
   refine WR.batch 3 [(0, .int .u64 (sShr .u64 (sShr .u64 a0 (16 : Int)) (8 : Int))), (2, .int .i64 24)] (by kernel_rfl) ?_
   refine WR.fin (by kernel_rfl) ?_
   refine go hK47 ?_
   refine CW.seq fun K52 hK52 => ?_
   refine CW.region ?_
   refine WR.batch 3 [(19, .int .i64 24), (21, .int .u8 (IntKind.u8.wrap (sShr .u64 (sShr .u64 a0 (16 : Int)) (8 : Int))))] (by kernel_rfl) ?_
   refine WR.valR (dst := some 22) (v := .int .u8 (tab0.getD (IntKind.u8.wrap (sShr .u64 (sShr .u64 a0 (16 : Int)) (8 : Int))).toNat 0)) (w' := w) (run_idxS (s := tab0_s) (t := 9) (kk := .u8) (i := (IntKind.u8.wrap (sShr .u64 (sShr .u64 a0 (16 : Int)) (8 : Int)))) tab0 (by kernel_rfl) (by kernel_rfl) (by kernel_rfl) (show IU8 (IntKind.u8.wrap (sShr .u64 (sShr .u64 a0 (16 : Int)) (8 : Int))) from (wrapU8 _)).1 (by have hh : IU8 (IntKind.u8.wrap (sShr .u64 (sShr .u64 a0 (16 : Int)) (8 : Int))) := (wrapU8 _); rw [tab0_len]; omega) w) ?_
   have hm53 : 0 ≤ (tab0.getD (IntKind.u8.wrap (sShr .u64 (sShr .u64 a0 (16 : Int)) (8 : Int))).toNat 0) ∧ (tab0.getD (IntKind.u8.wrap (sShr .u64 (sShr .u64 a0 (16 : Int)) (8 : Int))).toNat 0) ≤ 255 := tab0_rng (IntKind.u8.wrap (sShr .u64 (sShr .u64 a0 (16 : Int)) (8 : Int))).toNat
   refine WR.batch 1 [(19, .int .i64 24), (23, .int .i64 (IntKind.i64.wrap ((tab0.getD (IntKind.u8.wrap (sShr .u64 (sShr .u64 a0 (16 : Int)) (8 : Int))).toNat 0))))] (by kernel_rfl) ?_
   have hw54 : IntKind.i64.wrap ((tab0.getD (IntKind.u8.wrap (sShr .u64 (sShr .u64 a0 (16 : Int)) (8 : Int))).toNat 0)) = ((tab0.getD (IntKind.u8.wrap (sShr .u64 (sShr .u64 a0 (16 : Int)) (8 : Int))).toNat 0)) := IntWalk.i64_in _ (by omega)
   refine WR.eqF (F' := [(19, .int .i64 24), (23, .int .i64 ((tab0.getD (IntKind.u8.wrap (sShr .u64 (sShr .u64 a0 (16 : Int)) (8 : Int))).toNat 0)))]) (by rw [hw54]) ?_
   refine WR.batch 1 [(24, .int .i64 (IntKind.i64.wrap ((24 : Int) + ((tab0.getD (IntKind.u8.wrap (sShr .u64 (sShr .u64 a0 (16 : Int)) (8 : Int))).toNat 0)))))] (by kernel_rfl) ?_
   have hw55 : IntKind.i64.wrap ((24 : Int) + ((tab0.getD (IntKind.u8.wrap (sShr .u64 (sShr .u64 a0 (16 : Int)) (8 : Int))).toNat 0))) = ((24 : Int) + ((tab0.getD (IntKind.u8.wrap (sShr .u64 (sShr .u64 a0 (16 : Int)) (8 : Int))).toNat 0))) := IntWalk.i64_in _ (by omega)
   refine WR.eqF (F' := [(24, .int .i64 ((24 : Int) + ((tab0.getD (IntKind.u8.wrap (sShr .u64 (sShr .u64 a0 (16 : Int)) (8 : Int))).toNat 0))))]) (by rw [hw55]) ?_
   refine WR.batch 1 [(2, .int .i64 ((24 : Int) + ((tab0.getD (IntKind.u8.wrap (sShr .u64 (sShr .u64 a0 (16 : Int)) (8 : Int))).toNat 0))))] (by kernel_rfl) ?_
   refine WR.fin (by kernel_rfl) ?_
   refine go hK52 ?_
   refine CW.ret ?_
   exact retV (.int .i64 ((24 : Int) + ((tab0.getD (IntKind.u8.wrap (sShr .u64 (sShr .u64 a0 (16 : Int)) (8 : Int))).toNat 0)))) (by kernel_rfl) (⟨(Chg.refl _ _), (congrArg (fun r : Int => (.int .i64 r : Value)) hs50).symm⟩)
  have hs56 := ifF ht49 hs45
  replace ht49 : ¬ ((sShr .u64 a0 (16 : Int)) ≥ (256 : Int)) := (of_decide_eq_false ht49)
  refine CW.skip ?_
  refine go hK47 ?_
  refine CW.seq fun K57 hK57 => ?_
  refine CW.region ?_
  refine WR.batch 3 [(19, .int .i64 16), (21, .int .u8 (IntKind.u8.wrap (sShr .u64 a0 (16 : Int))))] (by kernel_rfl) ?_
  refine WR.valR (dst := some 22) (v := .int .u8 (tab0.getD (IntKind.u8.wrap (sShr .u64 a0 (16 : Int))).toNat 0)) (w' := w) (run_idxS (s := tab0_s) (t := 9) (kk := .u8) (i := (IntKind.u8.wrap (sShr .u64 a0 (16 : Int)))) tab0 (by kernel_rfl) (by kernel_rfl) (by kernel_rfl) (show IU8 (IntKind.u8.wrap (sShr .u64 a0 (16 : Int))) from (wrapU8 _)).1 (by have hh : IU8 (IntKind.u8.wrap (sShr .u64 a0 (16 : Int))) := (wrapU8 _); rw [tab0_len]; omega) w) ?_
  have hm58 : 0 ≤ (tab0.getD (IntKind.u8.wrap (sShr .u64 a0 (16 : Int))).toNat 0) ∧ (tab0.getD (IntKind.u8.wrap (sShr .u64 a0 (16 : Int))).toNat 0) ≤ 255 := tab0_rng (IntKind.u8.wrap (sShr .u64 a0 (16 : Int))).toNat
  refine WR.batch 1 [(19, .int .i64 16), (23, .int .i64 (IntKind.i64.wrap ((tab0.getD (IntKind.u8.wrap (sShr .u64 a0 (16 : Int))).toNat 0))))] (by kernel_rfl) ?_
  have hw59 : IntKind.i64.wrap ((tab0.getD (IntKind.u8.wrap (sShr .u64 a0 (16 : Int))).toNat 0)) = ((tab0.getD (IntKind.u8.wrap (sShr .u64 a0 (16 : Int))).toNat 0)) := IntWalk.i64_in _ (by omega)
  refine WR.eqF (F' := [(19, .int .i64 16), (23, .int .i64 ((tab0.getD (IntKind.u8.wrap (sShr .u64 a0 (16 : Int))).toNat 0)))]) (by rw [hw59]) ?_
  refine WR.batch 1 [(24, .int .i64 (IntKind.i64.wrap ((16 : Int) + ((tab0.getD (IntKind.u8.wrap (sShr .u64 a0 (16 : Int))).toNat 0)))))] (by kernel_rfl) ?_
  have hw60 : IntKind.i64.wrap ((16 : Int) + ((tab0.getD (IntKind.u8.wrap (sShr .u64 a0 (16 : Int))).toNat 0))) = ((16 : Int) + ((tab0.getD (IntKind.u8.wrap (sShr .u64 a0 (16 : Int))).toNat 0))) := IntWalk.i64_in _ (by omega)
  refine WR.eqF (F' := [(24, .int .i64 ((16 : Int) + ((tab0.getD (IntKind.u8.wrap (sShr .u64 a0 (16 : Int))).toNat 0))))]) (by rw [hw60]) ?_
  refine WR.batch 1 [(2, .int .i64 ((16 : Int) + ((tab0.getD (IntKind.u8.wrap (sShr .u64 a0 (16 : Int))).toNat 0))))] (by kernel_rfl) ?_
  refine WR.fin (by kernel_rfl) ?_
  refine go hK57 ?_
  refine CW.ret ?_
  exact retV (.int .i64 ((16 : Int) + ((tab0.getD (IntKind.u8.wrap (sShr .u64 a0 (16 : Int))).toNat 0)))) (by kernel_rfl) (⟨(Chg.refl _ _), (congrArg (fun r : Int => (.int .i64 r : Value)) hs56).symm⟩)
 have hs61 := ifF ht44 hs41
 replace ht44 : ¬ (a0 ≥ (65536 : Int)) := (of_decide_eq_false ht44)
 refine CW.skip ?_
 refine go hK42 ?_
 refine CW.seq fun K62 hK62 => ?_
 refine CW.seq fun K63 hK63 => ?_
 refine CW.region ?_
 refine WR.batch 2 [(0, .int .u64 a0), (2, .int .i64 0), (14, .bool (decide (a0 ≥ (256 : Int))))] (by kernel_rfl) ?_
 refine WR.fin (by kernel_rfl) ?_
 refine go hK63 ?_
 refine CW.cond (decide (a0 ≥ (256 : Int))) (by kernel_rfl) (fun ht64 => ?_) (fun ht64 => ?_)
 ·
  have hs65 := ifT ht64 hs61
  replace ht64 : a0 ≥ (256 : Int) := (of_decide_eq_true ht64)
  refine CW.seq fun K66 hK66 => ?_
  refine CW.region ?_
  refine WR.batch 3 [(0, .int .u64 (sShr .u64 a0 (8 : Int))), (2, .int .i64 0)] (by kernel_rfl) ?_
  refine WR.fin (by kernel_rfl) ?_
  refine go hK66 ?_
  refine CW.region ?_
  refine WR.batch 3 [(0, .int .u64 (sShr .u64 a0 (8 : Int))), (2, .int .i64 8)] (by kernel_rfl) ?_
  refine WR.fin (by kernel_rfl) ?_
  refine go hK62 ?_
  refine CW.seq fun K67 hK67 => ?_
  refine CW.region ?_
  refine WR.batch 3 [(19, .int .i64 8), (21, .int .u8 (IntKind.u8.wrap (sShr .u64 a0 (8 : Int))))] (by kernel_rfl) ?_
  refine WR.valR (dst := some 22) (v := .int .u8 (tab0.getD (IntKind.u8.wrap (sShr .u64 a0 (8 : Int))).toNat 0)) (w' := w) (run_idxS (s := tab0_s) (t := 9) (kk := .u8) (i := (IntKind.u8.wrap (sShr .u64 a0 (8 : Int)))) tab0 (by kernel_rfl) (by kernel_rfl) (by kernel_rfl) (show IU8 (IntKind.u8.wrap (sShr .u64 a0 (8 : Int))) from (wrapU8 _)).1 (by have hh : IU8 (IntKind.u8.wrap (sShr .u64 a0 (8 : Int))) := (wrapU8 _); rw [tab0_len]; omega) w) ?_
  have hm68 : 0 ≤ (tab0.getD (IntKind.u8.wrap (sShr .u64 a0 (8 : Int))).toNat 0) ∧ (tab0.getD (IntKind.u8.wrap (sShr .u64 a0 (8 : Int))).toNat 0) ≤ 255 := tab0_rng (IntKind.u8.wrap (sShr .u64 a0 (8 : Int))).toNat
  refine WR.batch 1 [(19, .int .i64 8), (23, .int .i64 (IntKind.i64.wrap ((tab0.getD (IntKind.u8.wrap (sShr .u64 a0 (8 : Int))).toNat 0))))] (by kernel_rfl) ?_
  have hw69 : IntKind.i64.wrap ((tab0.getD (IntKind.u8.wrap (sShr .u64 a0 (8 : Int))).toNat 0)) = ((tab0.getD (IntKind.u8.wrap (sShr .u64 a0 (8 : Int))).toNat 0)) := IntWalk.i64_in _ (by omega)
  refine WR.eqF (F' := [(19, .int .i64 8), (23, .int .i64 ((tab0.getD (IntKind.u8.wrap (sShr .u64 a0 (8 : Int))).toNat 0)))]) (by rw [hw69]) ?_
  refine WR.batch 1 [(24, .int .i64 (IntKind.i64.wrap ((8 : Int) + ((tab0.getD (IntKind.u8.wrap (sShr .u64 a0 (8 : Int))).toNat 0)))))] (by kernel_rfl) ?_
  have hw70 : IntKind.i64.wrap ((8 : Int) + ((tab0.getD (IntKind.u8.wrap (sShr .u64 a0 (8 : Int))).toNat 0))) = ((8 : Int) + ((tab0.getD (IntKind.u8.wrap (sShr .u64 a0 (8 : Int))).toNat 0))) := IntWalk.i64_in _ (by omega)
  refine WR.eqF (F' := [(24, .int .i64 ((8 : Int) + ((tab0.getD (IntKind.u8.wrap (sShr .u64 a0 (8 : Int))).toNat 0))))]) (by rw [hw70]) ?_
  refine WR.batch 1 [(2, .int .i64 ((8 : Int) + ((tab0.getD (IntKind.u8.wrap (sShr .u64 a0 (8 : Int))).toNat 0))))] (by kernel_rfl) ?_
  refine WR.fin (by kernel_rfl) ?_
  refine go hK67 ?_
  refine CW.ret ?_
  exact retV (.int .i64 ((8 : Int) + ((tab0.getD (IntKind.u8.wrap (sShr .u64 a0 (8 : Int))).toNat 0)))) (by kernel_rfl) (⟨(Chg.refl _ _), (congrArg (fun r : Int => (.int .i64 r : Value)) hs65).symm⟩)
 have hs71 := ifF ht64 hs61
 replace ht64 : ¬ (a0 ≥ (256 : Int)) := (of_decide_eq_false ht64)
 refine CW.skip ?_
 refine go hK62 ?_
 refine CW.seq fun K72 hK72 => ?_
 refine CW.region ?_
 refine WR.batch 3 [(19, .int .i64 0), (21, .int .u8 (IntKind.u8.wrap a0))] (by kernel_rfl) ?_
 refine WR.valR (dst := some 22) (v := .int .u8 (tab0.getD (IntKind.u8.wrap a0).toNat 0)) (w' := w) (run_idxS (s := tab0_s) (t := 9) (kk := .u8) (i := (IntKind.u8.wrap a0)) tab0 (by kernel_rfl) (by kernel_rfl) (by kernel_rfl) (show IU8 (IntKind.u8.wrap a0) from (wrapU8 _)).1 (by have hh : IU8 (IntKind.u8.wrap a0) := (wrapU8 _); rw [tab0_len]; omega) w) ?_
 have hm73 : 0 ≤ (tab0.getD (IntKind.u8.wrap a0).toNat 0) ∧ (tab0.getD (IntKind.u8.wrap a0).toNat 0) ≤ 255 := tab0_rng (IntKind.u8.wrap a0).toNat
 refine WR.batch 1 [(19, .int .i64 0), (23, .int .i64 (IntKind.i64.wrap ((tab0.getD (IntKind.u8.wrap a0).toNat 0))))] (by kernel_rfl) ?_
 have hw74 : IntKind.i64.wrap ((tab0.getD (IntKind.u8.wrap a0).toNat 0)) = ((tab0.getD (IntKind.u8.wrap a0).toNat 0)) := IntWalk.i64_in _ (by omega)
 refine WR.eqF (F' := [(19, .int .i64 0), (23, .int .i64 ((tab0.getD (IntKind.u8.wrap a0).toNat 0)))]) (by rw [hw74]) ?_
 refine WR.batch 1 [(24, .int .i64 (IntKind.i64.wrap ((0 : Int) + ((tab0.getD (IntKind.u8.wrap a0).toNat 0)))))] (by kernel_rfl) ?_
 have hw75 : IntKind.i64.wrap ((0 : Int) + ((tab0.getD (IntKind.u8.wrap a0).toNat 0))) = ((0 : Int) + ((tab0.getD (IntKind.u8.wrap a0).toNat 0))) := IntWalk.i64_in _ (by omega)
 refine WR.eqF (F' := [(24, .int .i64 ((0 : Int) + ((tab0.getD (IntKind.u8.wrap a0).toNat 0))))]) (by rw [hw75]) ?_
 refine WR.batch 1 [(2, .int .i64 ((0 : Int) + ((tab0.getD (IntKind.u8.wrap a0).toNat 0))))] (by kernel_rfl) ?_
 refine WR.fin (by kernel_rfl) ?_
 refine go hK72 ?_
 refine CW.ret ?_
 exact retV (.int .i64 ((0 : Int) + ((tab0.getD (IntKind.u8.wrap a0).toNat 0)))) (by kernel_rfl) (⟨(Chg.refl _ _), (congrArg (fun r : Int => (.int .i64 r : Value)) hs71).symm⟩)

def Mul64 (a0 : Int) (a1 : Int)  : (Int × Int) := ((IntKind.u64.wrap ((IntKind.u64.wrap ((IntKind.u64.wrap ((sShr .u64 a0 (32 : Int)) * (sShr .u64 a1 (32 : Int)))) + (sShr .u64 (IntKind.u64.wrap ((IntKind.u64.wrap ((sShr .u64 a0 (32 : Int)) * (bAnd .u64 a1 (4294967295 : Int)))) + (sShr .u64 (IntKind.u64.wrap ((bAnd .u64 a0 (4294967295 : Int)) * (bAnd .u64 a1 (4294967295 : Int)))) (32 : Int)))) (32 : Int)))) + (sShr .u64 (IntKind.u64.wrap ((bAnd .u64 (IntKind.u64.wrap ((IntKind.u64.wrap ((sShr .u64 a0 (32 : Int)) * (bAnd .u64 a1 (4294967295 : Int)))) + (sShr .u64 (IntKind.u64.wrap ((bAnd .u64 a0 (4294967295 : Int)) * (bAnd .u64 a1 (4294967295 : Int)))) (32 : Int)))) (4294967295 : Int)) + (IntKind.u64.wrap ((bAnd .u64 a0 (4294967295 : Int)) * (sShr .u64 a1 (32 : Int)))))) (32 : Int)))), (IntKind.u64.wrap (a0 * a1)))

theorem Mul64_ok (a0 : Int) (a1 : Int)  (_h_a0 : IU64 a0) (_h_a1 : IU64 a1)  : IU64 (Mul64 a0 a1).1 ∧ IU64 (Mul64 a0 a1).2 := by
 rw [Mul64.eq_1]
 exact (by exact (show IU64 (IntKind.u64.wrap ((IntKind.u64.wrap ((IntKind.u64.wrap ((sShr .u64 a0 (32 : Int)) * (sShr .u64 a1 (32 : Int)))) + (sShr .u64 (IntKind.u64.wrap ((IntKind.u64.wrap ((sShr .u64 a0 (32 : Int)) * (bAnd .u64 a1 (4294967295 : Int)))) + (sShr .u64 (IntKind.u64.wrap ((bAnd .u64 a0 (4294967295 : Int)) * (bAnd .u64 a1 (4294967295 : Int)))) (32 : Int)))) (32 : Int)))) + (sShr .u64 (IntKind.u64.wrap ((bAnd .u64 (IntKind.u64.wrap ((IntKind.u64.wrap ((sShr .u64 a0 (32 : Int)) * (bAnd .u64 a1 (4294967295 : Int)))) + (sShr .u64 (IntKind.u64.wrap ((bAnd .u64 a0 (4294967295 : Int)) * (bAnd .u64 a1 (4294967295 : Int)))) (32 : Int)))) (4294967295 : Int)) + (IntKind.u64.wrap ((bAnd .u64 a0 (4294967295 : Int)) * (sShr .u64 a1 (32 : Int)))))) (32 : Int)))) ∧ IU64 (IntKind.u64.wrap (a0 * a1)) from ⟨(wrapU64 _), (wrapU64 _)⟩))

theorem Mul64_any (a0 : Int) (a1 : Int)   (w : World)  (_h_a0 : IU64 a0) (_h_a1 : IU64 a1)  : Calls Try.prog 128 #[.int .u64 a0, .int .u64 a1] w (RetV w (.tuple #[.int .u64 (Mul64 a0 a1).1, .int .u64 (Mul64 a0 a1).2])) := by
 have hs := Mul64.eq_1 a0 a1
 refine calls_of_CW Try.func128 rfl (n := 51) Try.ntmps128 (by kernel_rfl) [0, 1] (F := [(0, .int .u64 a0), (1, .int .u64 a1)]) (by kernel_rfl) ?_
 refine CW.seq fun K1 hK1 => ?_
 refine CW.region ?_
 refine WR.batch 2 [(0, .int .u64 a0), (1, .int .u64 a1)] (by kernel_rfl) ?_
 refine WR.fin (by kernel_rfl) ?_
 refine go hK1 ?_
 refine CW.seq fun K2 hK2 => ?_
 refine CW.region ?_
 refine WR.batch 3 [(0, .int .u64 a0), (1, .int .u64 a1), (6, .int .u64 (bAnd .u64 a0 (4294967295 : Int)))] (by kernel_rfl) ?_
 refine WR.fin (by kernel_rfl) ?_
 refine go hK2 ?_
 refine CW.seq fun K3 hK3 => ?_
 refine CW.region ?_
 refine WR.batch 3 [(0, .int .u64 a0), (1, .int .u64 a1), (6, .int .u64 (bAnd .u64 a0 (4294967295 : Int))), (7, .int .u64 (sShr .u64 a0 (32 : Int)))] (by kernel_rfl) ?_
 refine WR.fin (by kernel_rfl) ?_
 refine go hK3 ?_
 refine CW.seq fun K4 hK4 => ?_
 refine CW.region ?_
 refine WR.batch 3 [(0, .int .u64 a0), (1, .int .u64 a1), (6, .int .u64 (bAnd .u64 a0 (4294967295 : Int))), (7, .int .u64 (sShr .u64 a0 (32 : Int))), (8, .int .u64 (bAnd .u64 a1 (4294967295 : Int)))] (by kernel_rfl) ?_
 refine WR.fin (by kernel_rfl) ?_
 refine go hK4 ?_
 refine CW.seq fun K5 hK5 => ?_
 refine CW.region ?_
 refine WR.batch 3 [(0, .int .u64 a0), (1, .int .u64 a1), (6, .int .u64 (bAnd .u64 a0 (4294967295 : Int))), (7, .int .u64 (sShr .u64 a0 (32 : Int))), (8, .int .u64 (bAnd .u64 a1 (4294967295 : Int))), (9, .int .u64 (sShr .u64 a1 (32 : Int)))] (by kernel_rfl) ?_
 refine WR.fin (by kernel_rfl) ?_
 refine go hK5 ?_
 refine CW.seq fun K6 hK6 => ?_
 refine CW.region ?_
 refine WR.batch 4 [(0, .int .u64 a0), (1, .int .u64 a1), (6, .int .u64 (bAnd .u64 a0 (4294967295 : Int))), (7, .int .u64 (sShr .u64 a0 (32 : Int))), (8, .int .u64 (bAnd .u64 a1 (4294967295 : Int))), (9, .int .u64 (sShr .u64 a1 (32 : Int))), (10, .int .u64 (IntKind.u64.wrap ((bAnd .u64 a0 (4294967295 : Int)) * (bAnd .u64 a1 (4294967295 : Int)))))] (by kernel_rfl) ?_
 refine WR.fin (by kernel_rfl) ?_
 refine go hK6 ?_
 refine CW.seq fun K7 hK7 => ?_
 refine CW.region ?_
 refine WR.batch 7 [(0, .int .u64 a0), (1, .int .u64 a1), (6, .int .u64 (bAnd .u64 a0 (4294967295 : Int))), (7, .int .u64 (sShr .u64 a0 (32 : Int))), (9, .int .u64 (sShr .u64 a1 (32 : Int))), (11, .int .u64 (IntKind.u64.wrap ((IntKind.u64.wrap ((sShr .u64 a0 (32 : Int)) * (bAnd .u64 a1 (4294967295 : Int)))) + (sShr .u64 (IntKind.u64.wrap ((bAnd .u64 a0 (4294967295 : Int)) * (bAnd .u64 a1 (4294967295 : Int)))) (32 : Int)))))] (by kernel_rfl) ?_
 refine WR.fin (by kernel_rfl) ?_
 refine go hK7 ?_
 refine CW.seq fun K8 hK8 => ?_
 refine CW.region ?_
 refine WR.batch 3 [(0, .int .u64 a0), (1, .int .u64 a1), (6, .int .u64 (bAnd .u64 a0 (4294967295 : Int))), (7, .int .u64 (sShr .u64 a0 (32 : Int))), (9, .int .u64 (sShr .u64 a1 (32 : Int))), (11, .int .u64 (IntKind.u64.wrap ((IntKind.u64.wrap ((sShr .u64 a0 (32 : Int)) * (bAnd .u64 a1 (4294967295 : Int)))) + (sShr .u64 (IntKind.u64.wrap ((bAnd .u64 a0 (4294967295 : Int)) * (bAnd .u64 a1 (4294967295 : Int)))) (32 : Int))))), (12, .int .u64 (bAnd .u64 (IntKind.u64.wrap ((IntKind.u64.wrap ((sShr .u64 a0 (32 : Int)) * (bAnd .u64 a1 (4294967295 : Int)))) + (sShr .u64 (IntKind.u64.wrap ((bAnd .u64 a0 (4294967295 : Int)) * (bAnd .u64 a1 (4294967295 : Int)))) (32 : Int)))) (4294967295 : Int)))] (by kernel_rfl) ?_
 refine WR.fin (by kernel_rfl) ?_
 refine go hK8 ?_
 refine CW.seq fun K9 hK9 => ?_
 refine CW.region ?_
 refine WR.batch 3 [(0, .int .u64 a0), (1, .int .u64 a1), (6, .int .u64 (bAnd .u64 a0 (4294967295 : Int))), (7, .int .u64 (sShr .u64 a0 (32 : Int))), (9, .int .u64 (sShr .u64 a1 (32 : Int))), (12, .int .u64 (bAnd .u64 (IntKind.u64.wrap ((IntKind.u64.wrap ((sShr .u64 a0 (32 : Int)) * (bAnd .u64 a1 (4294967295 : Int)))) + (sShr .u64 (IntKind.u64.wrap ((bAnd .u64 a0 (4294967295 : Int)) * (bAnd .u64 a1 (4294967295 : Int)))) (32 : Int)))) (4294967295 : Int))), (13, .int .u64 (sShr .u64 (IntKind.u64.wrap ((IntKind.u64.wrap ((sShr .u64 a0 (32 : Int)) * (bAnd .u64 a1 (4294967295 : Int)))) + (sShr .u64 (IntKind.u64.wrap ((bAnd .u64 a0 (4294967295 : Int)) * (bAnd .u64 a1 (4294967295 : Int)))) (32 : Int)))) (32 : Int)))] (by kernel_rfl) ?_
 refine WR.fin (by kernel_rfl) ?_
 refine go hK9 ?_
 refine CW.seq fun K10 hK10 => ?_
 refine CW.region ?_
 refine WR.batch 6 [(0, .int .u64 a0), (1, .int .u64 a1), (7, .int .u64 (sShr .u64 a0 (32 : Int))), (9, .int .u64 (sShr .u64 a1 (32 : Int))), (12, .int .u64 (IntKind.u64.wrap ((bAnd .u64 (IntKind.u64.wrap ((IntKind.u64.wrap ((sShr .u64 a0 (32 : Int)) * (bAnd .u64 a1 (4294967295 : Int)))) + (sShr .u64 (IntKind.u64.wrap ((bAnd .u64 a0 (4294967295 : Int)) * (bAnd .u64 a1 (4294967295 : Int)))) (32 : Int)))) (4294967295 : Int)) + (IntKind.u64.wrap ((bAnd .u64 a0 (4294967295 : Int)) * (sShr .u64 a1 (32 : Int))))))), (13, .int .u64 (sShr .u64 (IntKind.u64.wrap ((IntKind.u64.wrap ((sShr .u64 a0 (32 : Int)) * (bAnd .u64 a1 (4294967295 : Int)))) + (sShr .u64 (IntKind.u64.wrap ((bAnd .u64 a0 (4294967295 : Int)) * (bAnd .u64 a1 (4294967295 : Int)))) (32 : Int)))) (32 : Int)))] (by kernel_rfl) ?_
 refine WR.fin (by kernel_rfl) ?_
 refine go hK10 ?_
 refine CW.seq fun K11 hK11 => ?_
 refine CW.region ?_
 refine WR.batch 9 [(0, .int .u64 a0), (1, .int .u64 a1), (4, .int .u64 (IntKind.u64.wrap ((IntKind.u64.wrap ((IntKind.u64.wrap ((sShr .u64 a0 (32 : Int)) * (sShr .u64 a1 (32 : Int)))) + (sShr .u64 (IntKind.u64.wrap ((IntKind.u64.wrap ((sShr .u64 a0 (32 : Int)) * (bAnd .u64 a1 (4294967295 : Int)))) + (sShr .u64 (IntKind.u64.wrap ((bAnd .u64 a0 (4294967295 : Int)) * (bAnd .u64 a1 (4294967295 : Int)))) (32 : Int)))) (32 : Int)))) + (sShr .u64 (IntKind.u64.wrap ((bAnd .u64 (IntKind.u64.wrap ((IntKind.u64.wrap ((sShr .u64 a0 (32 : Int)) * (bAnd .u64 a1 (4294967295 : Int)))) + (sShr .u64 (IntKind.u64.wrap ((bAnd .u64 a0 (4294967295 : Int)) * (bAnd .u64 a1 (4294967295 : Int)))) (32 : Int)))) (4294967295 : Int)) + (IntKind.u64.wrap ((bAnd .u64 a0 (4294967295 : Int)) * (sShr .u64 a1 (32 : Int)))))) (32 : Int)))))] (by kernel_rfl) ?_
 refine WR.fin (by kernel_rfl) ?_
 refine go hK11 ?_
 refine CW.seq fun K12 hK12 => ?_
 refine CW.region ?_
 refine WR.batch 4 [(4, .int .u64 (IntKind.u64.wrap ((IntKind.u64.wrap ((IntKind.u64.wrap ((sShr .u64 a0 (32 : Int)) * (sShr .u64 a1 (32 : Int)))) + (sShr .u64 (IntKind.u64.wrap ((IntKind.u64.wrap ((sShr .u64 a0 (32 : Int)) * (bAnd .u64 a1 (4294967295 : Int)))) + (sShr .u64 (IntKind.u64.wrap ((bAnd .u64 a0 (4294967295 : Int)) * (bAnd .u64 a1 (4294967295 : Int)))) (32 : Int)))) (32 : Int)))) + (sShr .u64 (IntKind.u64.wrap ((bAnd .u64 (IntKind.u64.wrap ((IntKind.u64.wrap ((sShr .u64 a0 (32 : Int)) * (bAnd .u64 a1 (4294967295 : Int)))) + (sShr .u64 (IntKind.u64.wrap ((bAnd .u64 a0 (4294967295 : Int)) * (bAnd .u64 a1 (4294967295 : Int)))) (32 : Int)))) (4294967295 : Int)) + (IntKind.u64.wrap ((bAnd .u64 a0 (4294967295 : Int)) * (sShr .u64 a1 (32 : Int)))))) (32 : Int))))), (5, .int .u64 (IntKind.u64.wrap (a0 * a1)))] (by kernel_rfl) ?_
 refine WR.fin (by kernel_rfl) ?_
 refine go hK12 ?_
 refine CW.ret ?_
 exact retV (.tuple #[.int .u64 (IntKind.u64.wrap ((IntKind.u64.wrap ((IntKind.u64.wrap ((sShr .u64 a0 (32 : Int)) * (sShr .u64 a1 (32 : Int)))) + (sShr .u64 (IntKind.u64.wrap ((IntKind.u64.wrap ((sShr .u64 a0 (32 : Int)) * (bAnd .u64 a1 (4294967295 : Int)))) + (sShr .u64 (IntKind.u64.wrap ((bAnd .u64 a0 (4294967295 : Int)) * (bAnd .u64 a1 (4294967295 : Int)))) (32 : Int)))) (32 : Int)))) + (sShr .u64 (IntKind.u64.wrap ((bAnd .u64 (IntKind.u64.wrap ((IntKind.u64.wrap ((sShr .u64 a0 (32 : Int)) * (bAnd .u64 a1 (4294967295 : Int)))) + (sShr .u64 (IntKind.u64.wrap ((bAnd .u64 a0 (4294967295 : Int)) * (bAnd .u64 a1 (4294967295 : Int)))) (32 : Int)))) (4294967295 : Int)) + (IntKind.u64.wrap ((bAnd .u64 a0 (4294967295 : Int)) * (sShr .u64 a1 (32 : Int)))))) (32 : Int)))), .int .u64 (IntKind.u64.wrap (a0 * a1))]) (by kernel_rfl) (⟨(Chg.refl _ _), (congrArg (fun r : (Int × Int) => (.tuple #[.int .u64 r.1, .int .u64 r.2] : Value)) hs).symm⟩)

theorem Len64_nn (a0 : Int) (_h : 0 ≤ a0 ∧ a0 ≤ 18446744073709551615) : 0 ≤ Len64 a0 ∧ Len64 a0 ≤ 1000 := by
  unfold Len64
  have key := fun j => tab0_rng j
  repeat' split
  all_goals (first | (have := key (IntKind.u8.wrap a0).toNat; omega) | skip)
  all_goals (first | (have := key (IntKind.u8.wrap (sShr .u64 a0 8)).toNat; omega) | (have := key (IntKind.u8.wrap (sShr .u64 a0 16)).toNat; omega) | (have := key (IntKind.u8.wrap (sShr .u64 a0 32)).toNat; omega) | (have := key (IntKind.u8.wrap (sShr .u64 (sShr .u64 a0 16) 8)).toNat; omega) | (have := key (IntKind.u8.wrap (sShr .u64 (sShr .u64 a0 32) 8)).toNat; omega) | (have := key (IntKind.u8.wrap (sShr .u64 (sShr .u64 a0 32) 16)).toNat; omega) | (have := key (IntKind.u8.wrap (sShr .u64 (sShr .u64 (sShr .u64 a0 32) 16) 8)).toNat; omega))

def span_fill (a0 : Int)  : Int := (letF (Len64 a0) fun x3 => (IntKind.u64.wrap ((sShl .u64 (1 : Int) x3) - (1 : Int))))

theorem span_fill_ok (a0 : Int)  (_h_a0 : IU64 a0)  : IU64 (span_fill a0) := by
 rw [span_fill.eq_1]
 refine letR (p := fun r : Int => IU64 r) fun x3 hx4 => ?_
 have hxx3_ : 0 ≤ x3 ∧ x3 ≤ 1000 := by rw [← hx4]; exact Len64_nn a0 (by omega)
 have hx5 : II64 x3 := by rw [← hx4]; exact Len64_ok a0 (by omega) 
 exact (by exact (show IU64 (IntKind.u64.wrap ((sShl .u64 (1 : Int) x3) - (1 : Int))) from (wrapU64 _)))

theorem span_fill_any (a0 : Int)   (w : World)  (_h_a0 : IU64 a0)  : Calls Try.prog 130 #[.int .u64 a0] w (RetV w (.int .u64 (span_fill a0))) := by
 have hs := span_fill.eq_1 a0
 refine calls_of_CW Try.func130 rfl (n := 7) Try.ntmps130 (by kernel_rfl) [0] (F := [(0, .int .u64 a0)]) (by kernel_rfl) ?_
 refine CW.seq fun K1 hK1 => ?_
 refine CW.region ?_
 refine WR.batch 1 [(0, .int .u64 a0)] (by kernel_rfl) ?_
 refine WR.fin (by kernel_rfl) ?_
 refine go hK1 ?_
 refine CW.seq fun K2 hK2 => ?_
 refine CW.region ?_
 refine WR.batch 1 [(3, .int .u64 a0)] (by kernel_rfl) ?_
 obtain ⟨x3, hx4⟩ : ∃ x, Len64 a0 = x := ⟨_, rfl⟩
 have hs6 := letS hx4 hs
 have hxx3_ : 0 ≤ x3 ∧ x3 ≤ 1000 := by rw [← hx4]; exact Len64_nn a0 (by omega)
 have hx5 : II64 x3 := by rw [← hx4]; exact Len64_ok a0 (by omega) 
 refine WR.call (dst := some 4) (by kernel_rfl) (retE (g := (fun r : Int => (.int .i64 r : Value))) hx4 (Len64_any a0 w  (by omega) )) ?_
 rintro _ w7 hc8 rfl
 have hz10 := hc8.size
 have hC9 := (Chg.refl [] w).pure hc8
 refine WR.valR (dst := some 5) (v := .int .u64 (sShl .u64 (1 : Int) x3)) (w' := w7) (run_shl (kk := .u64) (k' := .i64) (x := (1 : Int)) (y := x3) (by kernel_rfl) (by omega) w7) ?_
 refine WR.batch 2 [(2, .int .u64 (IntKind.u64.wrap ((sShl .u64 (1 : Int) x3) - (1 : Int))))] (by kernel_rfl) ?_
 refine WR.fin (by kernel_rfl) ?_
 refine go hK2 ?_
 refine CW.ret ?_
 exact retV (.int .u64 (IntKind.u64.wrap ((sShl .u64 (1 : Int) x3) - (1 : Int)))) (by kernel_rfl) (⟨hC9, (congrArg (fun r : Int => (.int .u64 r : Value)) hs6).symm⟩)

def span_work_or (a0 : Twork)  : TSpan := (letF (span_work_both a0) fun x25 => (if x25 then (letF (span_Of (bOr .u64 a0.a.Lo a0.b.Lo)) fun x36 => x36) else (⟨(gMax a0.a.Lo a0.b.Lo), (span_fill (bOr .u64 a0.a.Hi a0.b.Hi))⟩ : TSpan)))

theorem span_work_or_ok (a0 : Twork)  (_h_a0 : IU64 a0.a.Lo ∧ IU64 a0.a.Hi ∧ IU64 a0.b.Lo ∧ IU64 a0.b.Hi ∧ IU64 a0.most ∧ IU64 a0.size)  : IU64 (span_work_or a0).Lo ∧ IU64 (span_work_or a0).Hi := by
 rw [span_work_or.eq_1]
 refine letR (p := fun r : TSpan => IU64 r.Lo ∧ IU64 r.Hi) fun x25 _ => ?_
 refine iteR (p := fun r : TSpan => IU64 r.Lo ∧ IU64 r.Hi) (fun hi1001 => ?_) (fun hi1001 => ?_)
 ·
  refine letR (p := fun r : TSpan => IU64 r.Lo ∧ IU64 r.Hi) fun x36 hx37 => ?_
  have hx38 : IU64 x36.Lo ∧ IU64 x36.Hi := by rw [← hx37]; exact span_Of_ok (bOr .u64 a0.a.Lo a0.b.Lo) (wrapU64 _) 
  exact (by exact (show IU64 x36.Lo ∧ IU64 x36.Hi from ⟨(by omega), (by omega)⟩))
 exact (by have : IU64 (span_fill (bOr .u64 a0.a.Hi a0.b.Hi)) := span_fill_ok (bOr .u64 a0.a.Hi a0.b.Hi) (wrapU64 _) ; exact (show IU64 (gMax a0.a.Lo a0.b.Lo) ∧ IU64 (span_fill (bOr .u64 a0.a.Hi a0.b.Hi)) from ⟨(gMax_rng (by omega) (by omega)), (by omega)⟩))

set_option maxRecDepth 100000 in
set_option maxHeartbeats 4000000 in
theorem span_work_or_any (a0 : Twork)   (w : World)  (_h_a0 : IU64 a0.a.Lo ∧ IU64 a0.a.Hi ∧ IU64 a0.b.Lo ∧ IU64 a0.b.Hi ∧ IU64 a0.most ∧ IU64 a0.size)  : Calls Try.prog 82 #[.agg #[.int .u64 a0.a.Lo, .int .u64 a0.a.Hi, .int .u64 a0.b.Lo, .int .u64 a0.b.Hi, .bool a0.narrow, .int .u64 a0.most, .int .u64 a0.size]] w (RetV w (TSpan.v (span_work_or a0))) := by
 have hs := span_work_or.eq_1 a0
 refine calls_of_CW Try.func82 rfl (n := 29) Try.ntmps82 (by kernel_rfl) [0] (F := [(0, .agg #[.int .u64 a0.a.Lo, .int .u64 a0.a.Hi, .int .u64 a0.b.Lo, .int .u64 a0.b.Hi, .bool a0.narrow, .int .u64 a0.most, .int .u64 a0.size])]) (by kernel_rfl) ?_
 refine CW.seq fun K1 hK1 => ?_
 refine CW.region ?_
 refine WR.box (dst := some 1) (e := 79) (v := .agg #[.int .u64 a0.a.Lo, .int .u64 a0.a.Hi, .int .u64 a0.b.Lo, .int .u64 a0.b.Hi, .bool a0.narrow, .int .u64 a0.most, .int .u64 a0.size]) (by kernel_rfl) #[.int .u64 a0.a.Lo, .int .u64 a0.a.Hi, .int .u64 a0.b.Lo, .int .u64 a0.b.Hi, .bool a0.narrow, .int .u64 a0.most, .int .u64 a0.size] (by kernel_rfl) ?_
 intro g2 w3 hN4
 have hf6 : w.heap.size ≤ g2 := hN4.fresh
 have hfr8 := hN4.fresh
 have hc7 := hN4.chg
 have hz10 := hc7.size
 have hC9 := (Chg.refl [] w).pure hc7
 have hb5 := hN4.blk
 have hg11 := hb5.lt
 refine WR.alloc (dst := some 2) (e := 25) (by kernel_rfl) #[.int .u64 0, .int .u64 0] (by kernel_rfl) ?_
 intro g12 w13 hN14
 have hf16 : w.heap.size ≤ g12 := Nat.le_trans hC9.size hN14.fresh
 have hfr18 := hN14.fresh
 have hc17 := hN14.chg
 have hz20 := hc17.size
 have hC19 := hC9.pure hc17
 have hb15 := hN14.blk
 have hg21 := hb15.lt
 refine WR.fin (by kernel_rfl) ?_
 refine go hK1 ?_
 refine CW.seq fun K22 hK22 => ?_
 refine CW.seq fun K23 hK23 => ?_
 refine CW.region ?_
 have hb24 := hb5.pure hc17
 refine WR.load (dst := some 3) (t := 79) (o := 0) hb24 (by kernel_rfl) (.agg #[.int .u64 a0.a.Lo, .int .u64 a0.a.Hi, .int .u64 a0.b.Lo, .int .u64 a0.b.Hi, .bool a0.narrow, .int .u64 a0.most, .int .u64 a0.size]) (by kernel_rfl) ?_
 obtain ⟨x25, hx26⟩ : ∃ x, span_work_both a0 = x := ⟨_, rfl⟩
 have hs27 := letS hx26 hs
 refine WR.call (dst := some 4) (by kernel_rfl) (retE (g := (fun r : Bool => (.bool r : Value))) hx26 (span_work_both_any a0 w13  ⟨(by omega), (by omega), (by omega), (by omega), (by omega), (by omega)⟩ )) ?_
 rintro _ w28 hc29 rfl
 have hz31 := hc29.size
 have hC30 := hC19.pure hc29
 refine WR.fin (by kernel_rfl) ?_
 refine go hK23 ?_
 refine CW.cond (x25) (by kernel_rfl) (fun ht32 => ?_) (fun ht32 => ?_)
 ·
  have hs33 := ifT ht32 hs27
  refine CW.seq fun K34 hK34 => ?_
  refine CW.region ?_
  refine WR.batch 2 [(1, pt g2 0), (2, pt g12 0), (6, pt g2 0)] (by kernel_rfl) ?_
  have hb35 := hb24.pure hc29
  refine WR.load (dst := some 7) (t := 23) (o := 0) hb35 (by kernel_rfl) (.int .u64 a0.a.Lo) (by kernel_rfl) ?_
  refine WR.batch 2 [(2, pt g12 0), (7, .int .u64 a0.a.Lo), (9, pt g2 2)] (by kernel_rfl) ?_
  refine WR.load (dst := some 10) (t := 23) (o := 2) hb35 (by kernel_rfl) (.int .u64 a0.b.Lo) (by kernel_rfl) ?_
  refine WR.batch 1 [(2, pt g12 0), (11, .int .u64 (bOr .u64 a0.a.Lo a0.b.Lo))] (by kernel_rfl) ?_
  obtain ⟨x36, hx37⟩ : ∃ x, span_Of (bOr .u64 a0.a.Lo a0.b.Lo) = x := ⟨_, rfl⟩
  have hs39 := letS hx37 hs33
  have hx38 : IU64 x36.Lo ∧ IU64 x36.Hi := by rw [← hx37]; exact span_Of_ok (bOr .u64 a0.a.Lo a0.b.Lo) (wrapU64 _) 
  refine WR.call (dst := some 12) (by kernel_rfl) (retE (g := TSpan.v) hx37 (span_Of_any (bOr .u64 a0.a.Lo a0.b.Lo) w28  (wrapU64 _) )) ?_
  rintro _ w40 hc41 rfl
  have hz43 := hc41.size
  have hC42 := hC30.pure hc41
  have hb47 := (hb15.pure hc29).pure hc41
  refine WR.store (t := 25) (o := 0) (v := .agg #[.int .u64 x36.Lo, .int .u64 x36.Hi]) hb47 (by kernel_rfl) #[.int .u64 x36.Lo, .int .u64 x36.Hi] (by kernel_rfl) ?_
  intro w44 hb45 hc46
  have hz49 := hc46.size
  have hC48 := hC42.step1 hc46 (by omega)
  refine WR.fin (by kernel_rfl) ?_
  refine go hK34 ?_
  refine CW.ret ?_
  exact retC [.agg #[.int .u64 x36.Lo, .int .u64 x36.Hi]] _ rfl ⟨resCell hb45 rfl (by kernel_rfl), trivial⟩ (⟨hC48, (congrArg TSpan.v hs39).symm⟩)
 have hs50 := ifF ht32 hs27
 refine CW.skip ?_
 refine go hK22 ?_
 refine CW.seq fun K51 hK51 => ?_
 refine CW.keep [1, 2] (F' := [(1, pt g2 0), (2, pt g12 0)]) (by kernel_rfl) ?_
 refine CW.regionG 16 [some (pt g2 0), some (pt g2 0), some (.int .u64 a0.a.Lo), some (pt g2 2), some (pt g2 2), some (.int .u64 a0.b.Lo), some (.int .u64 (gMax a0.a.Lo a0.b.Lo)), some (pt g2 0), some (pt g2 1), some (.int .u64 a0.a.Hi), some (pt g2 2), some (pt g2 3), some (.int .u64 a0.b.Hi), some (.int .u64 (bOr .u64 a0.a.Hi a0.b.Hi)), some (.int .u64 (span_fill (bOr .u64 a0.a.Hi a0.b.Hi))), some (.agg #[.int .u64 (gMax a0.a.Lo a0.b.Lo), .int .u64 (span_fill (bOr .u64 a0.a.Hi a0.b.Hi))])] (fun u => [(13, pt g2 0), (14, pt g2 0), (15, .int .u64 a0.a.Lo), (16, pt g2 2), (17, pt g2 2), (18, .int .u64 a0.b.Lo), (19, .int .u64 (gMax a0.a.Lo a0.b.Lo)), (20, pt g2 0), (21, pt g2 1), (22, .int .u64 a0.a.Hi), (23, pt g2 2), (24, pt g2 3), (25, .int .u64 a0.b.Hi), (26, .int .u64 (bOr .u64 a0.a.Hi a0.b.Hi)), (27, .int .u64 (span_fill (bOr .u64 a0.a.Hi a0.b.Hi))), (28, .agg #[.int .u64 (gMax a0.a.Lo a0.b.Lo), .int .u64 (span_fill (bOr .u64 a0.a.Hi a0.b.Hi))]), (1, pt g2 0), (2, pt g12 0)]) (fun _ => by kernel_rfl) (by kernel_rfl) [] (fun _ _ => True) (fun _ => trivial) (fun _ _ _ _ _ _ _ => trivial) [] [] (by kernel_rfl) (fun w' => Chg [] w28 w') (fun _ _ _ => True) (fun j x w hj h => absurd hj (by simp)) (by kernel_rfl) (by kernel_rfl) (by kernel_rfl) (by kernel_rfl) (Chg.drew w28) (fun _ _ _ h h' => h.step h' (fun t ht => .inl (cL_sub t ht))) (fun _ _ _ _ _ _ _ _ => trivial) (obsG_batch 2 0 14 (fun _ _ => by kernel_rfl) (by kernel_rfl) ⟨?_, (obsG_batch 2 3 11 (fun _ _ => by kernel_rfl) (by kernel_rfl) ⟨?_, (obsG_batch 3 6 7 (fun _ _ => by kernel_rfl) (by kernel_rfl) ⟨?_, (obsG_batch 2 10 4 (fun _ _ => by kernel_rfl) (by kernel_rfl) ⟨?_, (obsG_batch 1 13 2 (fun _ _ => by kernel_rfl) (by kernel_rfl) ⟨?_, (obsG_batch 1 15 0 (fun _ _ => by kernel_rfl) (by kernel_rfl) trivial)⟩)⟩)⟩)⟩)⟩) ?_
 ·
  intro u52 w53 hW54 _ hp55 hal56
  have hz59 := hW54.size
  have hC58 := hC30.pure hW54
  have hb60 := (hb24.pure hc29).pure hW54
  refine WR.load (dst := some 15) (t := 23) (o := 0) hb60 (by kernel_rfl) (.int .u64 a0.a.Lo) (by kernel_rfl) ?_
  refine WR.fin (by kernel_rfl) ?_
  exact fun _ ha => ⟨Chg.refl _ _, _, ha, ⟨⟨fun h => absurd h (by decide), alNone (by decide)⟩, rfl⟩⟩
 ·
  intro u61 w62 hW63 _ hp64 hal65
  have hz68 := hW63.size
  have hC67 := hC30.pure hW63
  have hb69 := (hb24.pure hc29).pure hW63
  refine WR.load (dst := some 18) (t := 23) (o := 2) hb69 (by kernel_rfl) (.int .u64 a0.b.Lo) (by kernel_rfl) ?_
  refine WR.fin (by kernel_rfl) ?_
  exact fun _ ha => ⟨Chg.refl _ _, _, ha, ⟨⟨fun h => absurd h (by decide), alNone (by decide)⟩, rfl⟩⟩
 ·
  intro u70 w71 hW72 _ hp73 hal74
  have hz77 := hW72.size
  have hC76 := hC30.pure hW72
  have hb78 := (hb24.pure hc29).pure hW72
  refine WR.load (dst := some 22) (t := 23) (o := 1) hb78 (by kernel_rfl) (.int .u64 a0.a.Hi) (by kernel_rfl) ?_
  refine WR.fin (by kernel_rfl) ?_
  exact fun _ ha => ⟨Chg.refl _ _, _, ha, ⟨⟨fun h => absurd h (by decide), alNone (by decide)⟩, rfl⟩⟩
 ·
  intro u79 w80 hW81 _ hp82 hal83
  have hz86 := hW81.size
  have hC85 := hC30.pure hW81
  have hb87 := (hb24.pure hc29).pure hW81
  refine WR.load (dst := some 25) (t := 23) (o := 3) hb87 (by kernel_rfl) (.int .u64 a0.b.Hi) (by kernel_rfl) ?_
  refine WR.fin (by kernel_rfl) ?_
  exact fun _ ha => ⟨Chg.refl _ _, _, ha, ⟨⟨fun h => absurd h (by decide), alNone (by decide)⟩, rfl⟩⟩
 ·
  intro u88 w89 hW90 _ hp91 hal92
  have hz95 := hW90.size
  have hC94 := hC30.pure hW90
  have hx96 : IU64 (span_fill (bOr .u64 a0.a.Hi a0.b.Hi)) := span_fill_ok (bOr .u64 a0.a.Hi a0.b.Hi) (wrapU64 _) 
  have hx97 : IU64 (span_fill (bOr .u64 a0.a.Hi a0.b.Hi)) := span_fill_ok (bOr .u64 a0.a.Hi a0.b.Hi) (wrapU64 _) 
  refine WR.call (dst := some 27) (by kernel_rfl) (span_fill_any (bOr .u64 a0.a.Hi a0.b.Hi) w89  (wrapU64 _) ) ?_
  rintro _ w98 hc99 rfl
  have hz101 := hc99.size
  have hC100 := hC94.pure hc99
  refine WR.fin (by kernel_rfl) ?_
  exact fun _ ha => ⟨hc99, _, ha, ⟨⟨fun h => absurd h (by decide), alNone (by decide)⟩, rfl⟩⟩
 intro u102 w103 hW104 _ _ _
 have hz109 := hW104.size
 have hC108 := hC30.pure hW104
 have hx110 : IU64 (span_fill (bOr .u64 a0.a.Hi a0.b.Hi)) := span_fill_ok (bOr .u64 a0.a.Hi a0.b.Hi) (wrapU64 _) 
 refine WR.keep [2, 28] (F' := [(2, pt g12 0), (28, .agg #[.int .u64 (gMax a0.a.Lo a0.b.Lo), .int .u64 (span_fill (bOr .u64 a0.a.Hi a0.b.Hi))])]) (by kernel_rfl) ?_
 have hb114 := (hb15.pure hc29).pure hW104
 refine WR.store (t := 25) (o := 0) (v := .agg #[.int .u64 (gMax a0.a.Lo a0.b.Lo), .int .u64 (span_fill (bOr .u64 a0.a.Hi a0.b.Hi))]) hb114 (by kernel_rfl) #[.int .u64 (gMax a0.a.Lo a0.b.Lo), .int .u64 (span_fill (bOr .u64 a0.a.Hi a0.b.Hi))] (by kernel_rfl) ?_
 intro w111 hb112 hc113
 have hz116 := hc113.size
 have hC115 := hC108.step1 hc113 (by omega)
 refine WR.fin (by kernel_rfl) ?_
 refine go hK51 ?_
 refine CW.ret ?_
 exact retC [.agg #[.int .u64 (gMax a0.a.Lo a0.b.Lo), .int .u64 (span_fill (bOr .u64 a0.a.Hi a0.b.Hi))]] _ rfl ⟨resCell hb112 rfl (by kernel_rfl), trivial⟩ (⟨hC115, (congrArg TSpan.v hs50).symm⟩)

def span_work_xor (a0 : Twork)  : TSpan := (letF (span_work_both a0) fun x25 => (if x25 then (letF (span_Of (bXor .u64 a0.a.Lo a0.b.Lo)) fun x36 => x36) else (letF (span_fill (bOr .u64 a0.a.Hi a0.b.Hi)) fun x53 => (⟨(0 : Int), x53⟩ : TSpan))))

theorem span_work_xor_ok (a0 : Twork)  (_h_a0 : IU64 a0.a.Lo ∧ IU64 a0.a.Hi ∧ IU64 a0.b.Lo ∧ IU64 a0.b.Hi ∧ IU64 a0.most ∧ IU64 a0.size)  : IU64 (span_work_xor a0).Lo ∧ IU64 (span_work_xor a0).Hi := by
 rw [span_work_xor.eq_1]
 refine letR (p := fun r : TSpan => IU64 r.Lo ∧ IU64 r.Hi) fun x25 _ => ?_
 refine iteR (p := fun r : TSpan => IU64 r.Lo ∧ IU64 r.Hi) (fun hi1001 => ?_) (fun hi1001 => ?_)
 ·
  refine letR (p := fun r : TSpan => IU64 r.Lo ∧ IU64 r.Hi) fun x36 hx37 => ?_
  have hx38 : IU64 x36.Lo ∧ IU64 x36.Hi := by rw [← hx37]; exact span_Of_ok (bXor .u64 a0.a.Lo a0.b.Lo) (wrapU64 _) 
  exact (by exact (show IU64 x36.Lo ∧ IU64 x36.Hi from ⟨(by omega), (by omega)⟩))
 refine letR (p := fun r : TSpan => IU64 r.Lo ∧ IU64 r.Hi) fun x53 hx54 => ?_
 have hx55 : IU64 x53 := by rw [← hx54]; exact span_fill_ok (bOr .u64 a0.a.Hi a0.b.Hi) (wrapU64 _) 
 exact (by exact (show IU64 (0 : Int) ∧ IU64 x53 from ⟨(by omega), (by omega)⟩))

theorem span_work_xor_any (a0 : Twork)   (w : World)  (_h_a0 : IU64 a0.a.Lo ∧ IU64 a0.a.Hi ∧ IU64 a0.b.Lo ∧ IU64 a0.b.Hi ∧ IU64 a0.most ∧ IU64 a0.size)  : Calls Try.prog 83 #[.agg #[.int .u64 a0.a.Lo, .int .u64 a0.a.Hi, .int .u64 a0.b.Lo, .int .u64 a0.b.Hi, .bool a0.narrow, .int .u64 a0.most, .int .u64 a0.size]] w (RetV w (TSpan.v (span_work_xor a0))) := by
 have hs := span_work_xor.eq_1 a0
 refine calls_of_CW Try.func83 rfl (n := 22) Try.ntmps83 (by kernel_rfl) [0] (F := [(0, .agg #[.int .u64 a0.a.Lo, .int .u64 a0.a.Hi, .int .u64 a0.b.Lo, .int .u64 a0.b.Hi, .bool a0.narrow, .int .u64 a0.most, .int .u64 a0.size])]) (by kernel_rfl) ?_
 refine CW.seq fun K1 hK1 => ?_
 refine CW.region ?_
 refine WR.box (dst := some 1) (e := 79) (v := .agg #[.int .u64 a0.a.Lo, .int .u64 a0.a.Hi, .int .u64 a0.b.Lo, .int .u64 a0.b.Hi, .bool a0.narrow, .int .u64 a0.most, .int .u64 a0.size]) (by kernel_rfl) #[.int .u64 a0.a.Lo, .int .u64 a0.a.Hi, .int .u64 a0.b.Lo, .int .u64 a0.b.Hi, .bool a0.narrow, .int .u64 a0.most, .int .u64 a0.size] (by kernel_rfl) ?_
 intro g2 w3 hN4
 have hf6 : w.heap.size ≤ g2 := hN4.fresh
 have hfr8 := hN4.fresh
 have hc7 := hN4.chg
 have hz10 := hc7.size
 have hC9 := (Chg.refl [] w).pure hc7
 have hb5 := hN4.blk
 have hg11 := hb5.lt
 refine WR.alloc (dst := some 2) (e := 25) (by kernel_rfl) #[.int .u64 0, .int .u64 0] (by kernel_rfl) ?_
 intro g12 w13 hN14
 have hf16 : w.heap.size ≤ g12 := Nat.le_trans hC9.size hN14.fresh
 have hfr18 := hN14.fresh
 have hc17 := hN14.chg
 have hz20 := hc17.size
 have hC19 := hC9.pure hc17
 have hb15 := hN14.blk
 have hg21 := hb15.lt
 refine WR.fin (by kernel_rfl) ?_
 refine go hK1 ?_
 refine CW.seq fun K22 hK22 => ?_
 refine CW.seq fun K23 hK23 => ?_
 refine CW.region ?_
 have hb24 := hb5.pure hc17
 refine WR.load (dst := some 3) (t := 79) (o := 0) hb24 (by kernel_rfl) (.agg #[.int .u64 a0.a.Lo, .int .u64 a0.a.Hi, .int .u64 a0.b.Lo, .int .u64 a0.b.Hi, .bool a0.narrow, .int .u64 a0.most, .int .u64 a0.size]) (by kernel_rfl) ?_
 obtain ⟨x25, hx26⟩ : ∃ x, span_work_both a0 = x := ⟨_, rfl⟩
 have hs27 := letS hx26 hs
 refine WR.call (dst := some 4) (by kernel_rfl) (retE (g := (fun r : Bool => (.bool r : Value))) hx26 (span_work_both_any a0 w13  ⟨(by omega), (by omega), (by omega), (by omega), (by omega), (by omega)⟩ )) ?_
 rintro _ w28 hc29 rfl
 have hz31 := hc29.size
 have hC30 := hC19.pure hc29
 refine WR.fin (by kernel_rfl) ?_
 refine go hK23 ?_
 refine CW.cond (x25) (by kernel_rfl) (fun ht32 => ?_) (fun ht32 => ?_)
 ·
  have hs33 := ifT ht32 hs27
  refine CW.seq fun K34 hK34 => ?_
  refine CW.region ?_
  refine WR.batch 2 [(1, pt g2 0), (2, pt g12 0), (6, pt g2 0)] (by kernel_rfl) ?_
  have hb35 := hb24.pure hc29
  refine WR.load (dst := some 7) (t := 23) (o := 0) hb35 (by kernel_rfl) (.int .u64 a0.a.Lo) (by kernel_rfl) ?_
  refine WR.batch 2 [(2, pt g12 0), (7, .int .u64 a0.a.Lo), (9, pt g2 2)] (by kernel_rfl) ?_
  refine WR.load (dst := some 10) (t := 23) (o := 2) hb35 (by kernel_rfl) (.int .u64 a0.b.Lo) (by kernel_rfl) ?_
  refine WR.batch 1 [(2, pt g12 0), (11, .int .u64 (bXor .u64 a0.a.Lo a0.b.Lo))] (by kernel_rfl) ?_
  obtain ⟨x36, hx37⟩ : ∃ x, span_Of (bXor .u64 a0.a.Lo a0.b.Lo) = x := ⟨_, rfl⟩
  have hs39 := letS hx37 hs33
  have hx38 : IU64 x36.Lo ∧ IU64 x36.Hi := by rw [← hx37]; exact span_Of_ok (bXor .u64 a0.a.Lo a0.b.Lo) (wrapU64 _) 
  refine WR.call (dst := some 12) (by kernel_rfl) (retE (g := TSpan.v) hx37 (span_Of_any (bXor .u64 a0.a.Lo a0.b.Lo) w28  (wrapU64 _) )) ?_
  rintro _ w40 hc41 rfl
  have hz43 := hc41.size
  have hC42 := hC30.pure hc41
  have hb47 := (hb15.pure hc29).pure hc41
  refine WR.store (t := 25) (o := 0) (v := .agg #[.int .u64 x36.Lo, .int .u64 x36.Hi]) hb47 (by kernel_rfl) #[.int .u64 x36.Lo, .int .u64 x36.Hi] (by kernel_rfl) ?_
  intro w44 hb45 hc46
  have hz49 := hc46.size
  have hC48 := hC42.step1 hc46 (by omega)
  refine WR.fin (by kernel_rfl) ?_
  refine go hK34 ?_
  refine CW.ret ?_
  exact retC [.agg #[.int .u64 x36.Lo, .int .u64 x36.Hi]] _ rfl ⟨resCell hb45 rfl (by kernel_rfl), trivial⟩ (⟨hC48, (congrArg TSpan.v hs39).symm⟩)
 have hs50 := ifF ht32 hs27
 refine CW.skip ?_
 refine go hK22 ?_
 refine CW.seq fun K51 hK51 => ?_
 refine CW.region ?_
 refine WR.batch 2 [(1, pt g2 0), (2, pt g12 0), (14, pt g2 1)] (by kernel_rfl) ?_
 have hb52 := hb24.pure hc29
 refine WR.load (dst := some 15) (t := 23) (o := 1) hb52 (by kernel_rfl) (.int .u64 a0.a.Hi) (by kernel_rfl) ?_
 refine WR.batch 2 [(2, pt g12 0), (15, .int .u64 a0.a.Hi), (17, pt g2 3)] (by kernel_rfl) ?_
 refine WR.load (dst := some 18) (t := 23) (o := 3) hb52 (by kernel_rfl) (.int .u64 a0.b.Hi) (by kernel_rfl) ?_
 refine WR.batch 1 [(2, pt g12 0), (19, .int .u64 (bOr .u64 a0.a.Hi a0.b.Hi))] (by kernel_rfl) ?_
 obtain ⟨x53, hx54⟩ : ∃ x, span_fill (bOr .u64 a0.a.Hi a0.b.Hi) = x := ⟨_, rfl⟩
 have hs56 := letS hx54 hs50
 have hx55 : IU64 x53 := by rw [← hx54]; exact span_fill_ok (bOr .u64 a0.a.Hi a0.b.Hi) (wrapU64 _) 
 refine WR.call (dst := some 20) (by kernel_rfl) (retE (g := (fun r : Int => (.int .u64 r : Value))) hx54 (span_fill_any (bOr .u64 a0.a.Hi a0.b.Hi) w28  (wrapU64 _) )) ?_
 rintro _ w57 hc58 rfl
 have hz60 := hc58.size
 have hC59 := hC30.pure hc58
 refine WR.batch 1 [(2, pt g12 0), (21, .agg #[.int .u64 0, .int .u64 x53])] (by kernel_rfl) ?_
 have hb64 := (hb15.pure hc29).pure hc58
 refine WR.store (t := 25) (o := 0) (v := .agg #[.int .u64 0, .int .u64 x53]) hb64 (by kernel_rfl) #[.int .u64 0, .int .u64 x53] (by kernel_rfl) ?_
 intro w61 hb62 hc63
 have hz66 := hc63.size
 have hC65 := hC59.step1 hc63 (by omega)
 refine WR.fin (by kernel_rfl) ?_
 refine go hK51 ?_
 refine CW.ret ?_
 exact retC [.agg #[.int .u64 0, .int .u64 x53]] _ rfl ⟨resCell hb62 rfl (by kernel_rfl), trivial⟩ (⟨hC65, (congrArg TSpan.v hs56).symm⟩)

def span_work_mul (a0 : Twork)  : Option TSpan := (letF (Mul64 a0.a.Hi a0.b.Hi) fun x24 => (optF (span_must ((x24.1 == (0 : Int)) && (decide (x24.2 ≤ a0.most)))) (none) fun _ => some (⟨(IntKind.u64.wrap (a0.a.Lo * a0.b.Lo)), x24.2⟩ : TSpan)))

theorem span_work_mul_ok (a0 : Twork)  (_h_a0 : IU64 a0.a.Lo ∧ IU64 a0.a.Hi ∧ IU64 a0.b.Lo ∧ IU64 a0.b.Hi ∧ IU64 a0.most ∧ IU64 a0.size)  : ∀ y, (span_work_mul a0) = some y → IU64 y.Lo ∧ IU64 y.Hi := by
 rw [span_work_mul.eq_1]
 refine letR (p := fun r : Option TSpan => ∀ y, r = some y → IU64 y.Lo ∧ IU64 y.Hi) fun x24 hx25 => ?_
 have hx26 : IU64 x24.1 ∧ IU64 x24.2 := by rw [← hx25]; exact Mul64_ok a0.a.Hi a0.b.Hi (by omega) (by omega) 
 refine optR (p := fun r : Option TSpan => ∀ y, r = some y → IU64 y.Lo ∧ IU64 y.Hi) (fun _ => ?_) (fun x42 _ => ?_)
 ·
  intro y hy; cases hy
 intro y hy; cases hy; exact (by exact (show IU64 (IntKind.u64.wrap (a0.a.Lo * a0.b.Lo)) ∧ IU64 x24.2 from ⟨(wrapU64 _), (by omega)⟩))

theorem span_work_mul_any (a0 : Twork)   (w : World)  (_h_a0 : IU64 a0.a.Lo ∧ IU64 a0.a.Hi ∧ IU64 a0.b.Lo ∧ IU64 a0.b.Hi ∧ IU64 a0.most ∧ IU64 a0.size)  : Calls Try.prog 78 #[.agg #[.int .u64 a0.a.Lo, .int .u64 a0.a.Hi, .int .u64 a0.b.Lo, .int .u64 a0.b.Hi, .bool a0.narrow, .int .u64 a0.most, .int .u64 a0.size]] w (RetP w (.iface 76 (.agg #[])) (((span_work_mul a0)).map TSpan.v)) := by
 have hs := span_work_mul.eq_1 a0
 refine calls_of_CW Try.func78 rfl (n := 33) Try.ntmps78 (by kernel_rfl) [0] (F := [(0, .agg #[.int .u64 a0.a.Lo, .int .u64 a0.a.Hi, .int .u64 a0.b.Lo, .int .u64 a0.b.Hi, .bool a0.narrow, .int .u64 a0.most, .int .u64 a0.size])]) (by kernel_rfl) ?_
 refine CW.seq fun K1 hK1 => ?_
 refine CW.region ?_
 refine WR.box (dst := some 1) (e := 79) (v := .agg #[.int .u64 a0.a.Lo, .int .u64 a0.a.Hi, .int .u64 a0.b.Lo, .int .u64 a0.b.Hi, .bool a0.narrow, .int .u64 a0.most, .int .u64 a0.size]) (by kernel_rfl) #[.int .u64 a0.a.Lo, .int .u64 a0.a.Hi, .int .u64 a0.b.Lo, .int .u64 a0.b.Hi, .bool a0.narrow, .int .u64 a0.most, .int .u64 a0.size] (by kernel_rfl) ?_
 intro g2 w3 hN4
 have hf6 : w.heap.size ≤ g2 := hN4.fresh
 have hfr8 := hN4.fresh
 have hc7 := hN4.chg
 have hz10 := hc7.size
 have hC9 := (Chg.refl [] w).pure hc7
 have hb5 := hN4.blk
 have hg11 := hb5.lt
 refine WR.alloc (dst := some 2) (e := 25) (by kernel_rfl) #[.int .u64 0, .int .u64 0] (by kernel_rfl) ?_
 intro g12 w13 hN14
 have hf16 : w.heap.size ≤ g12 := Nat.le_trans hC9.size hN14.fresh
 have hfr18 := hN14.fresh
 have hc17 := hN14.chg
 have hz20 := hc17.size
 have hC19 := hC9.pure hc17
 have hb15 := hN14.blk
 have hg21 := hb15.lt
 refine WR.fin (by kernel_rfl) ?_
 refine go hK1 ?_
 refine CW.seq fun K22 hK22 => ?_
 refine CW.region ?_
 refine WR.batch 2 [(1, pt g2 0), (2, pt g12 0), (7, pt g2 1)] (by kernel_rfl) ?_
 have hb23 := hb5.pure hc17
 refine WR.load (dst := some 8) (t := 23) (o := 1) hb23 (by kernel_rfl) (.int .u64 a0.a.Hi) (by kernel_rfl) ?_
 refine WR.batch 2 [(1, pt g2 0), (2, pt g12 0), (8, .int .u64 a0.a.Hi), (10, pt g2 3)] (by kernel_rfl) ?_
 refine WR.load (dst := some 11) (t := 23) (o := 3) hb23 (by kernel_rfl) (.int .u64 a0.b.Hi) (by kernel_rfl) ?_
 obtain ⟨x24, hx25⟩ : ∃ x, Mul64 a0.a.Hi a0.b.Hi = x := ⟨_, rfl⟩
 have hs27 := letS hx25 hs
 have hx26 : IU64 x24.1 ∧ IU64 x24.2 := by rw [← hx25]; exact Mul64_ok a0.a.Hi a0.b.Hi (by omega) (by omega) 
 refine WR.call (dst := some 12) (by kernel_rfl) (retE (g := (fun r : (Int × Int) => (.tuple #[.int .u64 r.1, .int .u64 r.2] : Value))) hx25 (Mul64_any a0.a.Hi a0.b.Hi w13  (by omega) (by omega) )) ?_
 rintro _ w28 hc29 rfl
 have hz31 := hc29.size
 have hC30 := hC19.pure hc29
 refine WR.batch 5 [(1, pt g2 0), (2, pt g12 0), (3, .int .u64 x24.1), (4, .int .u64 x24.2)] (by kernel_rfl) ?_
 refine WR.fin (by kernel_rfl) ?_
 refine go hK22 ?_
 refine CW.seq fun K32 hK32 => ?_
 refine CW.region ?_
 refine WR.batch 3 [(1, pt g2 0), (2, pt g12 0), (4, .int .u64 x24.2), (17, .bool (x24.1 == (0 : Int)))] (by kernel_rfl) ?_
 refine WR.mergeW 8 [(1, pt g2 0), (2, pt g12 0), (4, .int .u64 x24.2), (22, .bool ((x24.1 == (0 : Int)) && (decide (x24.2 ≤ a0.most))))] (fun w' => Chg [] w28 w') (fun Q' => ?_) ?_
 ·
  cases hg33 : (x24.1 == (0 : Int))
  ·
   have hk35 := hg33
   replace hg33 : x24.1 ≠ (0 : Int) := (bEqF hg33)
   intro hM34
   refine WR.batch 5 [(1, pt g2 0), (2, pt g12 0), (4, .int .u64 x24.2), (22, .bool false)] (by kernel_rfl) ?_
   exact WR.keep [1, 2, 4, 22] (by kernel_rfl) (hM34 _ (Chg.refl [] w28))
  ·
   have hk36 := hg33
   replace hg33 : x24.1 = (0 : Int) := (bEqT hg33)
   intro hM34
   refine WR.batch 2 [(1, pt g2 0), (2, pt g12 0), (4, .int .u64 x24.2), (17, .bool true), (18, .int .u64 x24.2), (19, pt g2 5)] (by kernel_rfl) ?_
   have hb37 := hb23.pure hc29
   refine WR.load (dst := some 20) (t := 23) (o := 5) hb37 (by kernel_rfl) (.int .u64 a0.most) (by kernel_rfl) ?_
   refine WR.batch 2 [(1, pt g2 0), (2, pt g12 0), (4, .int .u64 x24.2), (22, .bool (decide (x24.2 ≤ a0.most)))] (by kernel_rfl) ?_
   exact WR.keep [1, 2, 4, 22] (by kernel_rfl) (hM34 _ (Chg.refl [] w28))
 intro w38 hc39
 have hz41 := hc39.size
 have hC40 := hC30.pure hc39
 rcases hx43 : span_must ((x24.1 == (0 : Int)) && (decide (x24.2 ≤ a0.most))) with _ | x42
 ·
  have hs46 := optN hx43 hs27
  refine WR.callX (dst := some 23) (by kernel_rfl) (retP_no (g := (fun _ : Unit => (.tuple #[] : Value))) hx43 (span_must_any ((x24.1 == (0 : Int)) && (decide (x24.2 ≤ a0.most))) w38  )) ?_
  intro w44 hc45
  have hz48 := hc45.size
  have hC47 := hC40.pure hc45
  exact panicV (P := Try.prog) (fn := Try.f78) (retP_pan hs46 hC47)
 have hs49 := optS hx43 hs27
 refine WR.call (dst := some 23) (by kernel_rfl) (retP_yes (g := (fun _ : Unit => (.tuple #[] : Value))) hx43 (span_must_any ((x24.1 == (0 : Int)) && (decide (x24.2 ≤ a0.most))) w38  )) ?_
 rintro _ w50 hc51 rfl
 have hz53 := hc51.size
 have hC52 := hC40.pure hc51
 refine WR.fin (by kernel_rfl) ?_
 refine go hK32 ?_
 refine CW.seq fun K54 hK54 => ?_
 refine CW.region ?_
 refine WR.batch 2 [(1, pt g2 0), (2, pt g12 0), (4, .int .u64 x24.2), (25, pt g2 0)] (by kernel_rfl) ?_
 have hb55 := ((hb23.pure hc29).pure hc39).pure hc51
 refine WR.load (dst := some 26) (t := 23) (o := 0) hb55 (by kernel_rfl) (.int .u64 a0.a.Lo) (by kernel_rfl) ?_
 refine WR.batch 2 [(2, pt g12 0), (4, .int .u64 x24.2), (26, .int .u64 a0.a.Lo), (28, pt g2 2)] (by kernel_rfl) ?_
 refine WR.load (dst := some 29) (t := 23) (o := 2) hb55 (by kernel_rfl) (.int .u64 a0.b.Lo) (by kernel_rfl) ?_
 refine WR.batch 3 [(2, pt g12 0), (32, .agg #[.int .u64 (IntKind.u64.wrap (a0.a.Lo * a0.b.Lo)), .int .u64 x24.2])] (by kernel_rfl) ?_
 have hb59 := ((hb15.pure hc29).pure hc39).pure hc51
 refine WR.store (t := 25) (o := 0) (v := .agg #[.int .u64 (IntKind.u64.wrap (a0.a.Lo * a0.b.Lo)), .int .u64 x24.2]) hb59 (by kernel_rfl) #[.int .u64 (IntKind.u64.wrap (a0.a.Lo * a0.b.Lo)), .int .u64 x24.2] (by kernel_rfl) ?_
 intro w56 hb57 hc58
 have hz61 := hc58.size
 have hC60 := hC52.step1 hc58 (by omega)
 refine WR.fin (by kernel_rfl) ?_
 refine go hK54 ?_
 refine CW.ret ?_
 exact retC [.agg #[.int .u64 (IntKind.u64.wrap (a0.a.Lo * a0.b.Lo)), .int .u64 x24.2]] _ rfl ⟨resCell hb57 rfl (by kernel_rfl), trivial⟩ (retP_ret (g := TSpan.v) hs49 rfl hC60)

def span_work_plain_19 (a0 : Twork)  : Option (TSpan × TSpan) := (optF (span_must (decide (a0.a.Hi > a0.b.Lo))) (none) fun _ => some ((⟨(gMax a0.a.Lo (IntKind.u64.wrap (a0.b.Lo + (1 : Int)))), a0.a.Hi⟩ : TSpan), (⟨a0.b.Lo, (gMin a0.b.Hi (IntKind.u64.wrap (a0.a.Hi - (1 : Int))))⟩ : TSpan)))

theorem span_work_plain_19_ok (a0 : Twork)  (_h_a0 : IU64 a0.a.Lo ∧ IU64 a0.a.Hi ∧ IU64 a0.b.Lo ∧ IU64 a0.b.Hi ∧ IU64 a0.most ∧ IU64 a0.size)  : ∀ y, (span_work_plain_19 a0) = some y → IU64 y.1.Lo ∧ IU64 y.1.Hi ∧ IU64 y.2.Lo ∧ IU64 y.2.Hi := by
 rw [span_work_plain_19.eq_1]
 refine optR (p := fun r : Option (TSpan × TSpan) => ∀ y, r = some y → IU64 y.1.Lo ∧ IU64 y.1.Hi ∧ IU64 y.2.Lo ∧ IU64 y.2.Hi) (fun _ => ?_) (fun x39 _ => ?_)
 ·
  intro y hy; cases hy
 intro y hy; cases hy; exact (by exact (show IU64 (gMax a0.a.Lo (IntKind.u64.wrap (a0.b.Lo + (1 : Int)))) ∧ IU64 a0.a.Hi ∧ IU64 a0.b.Lo ∧ IU64 (gMin a0.b.Hi (IntKind.u64.wrap (a0.a.Hi - (1 : Int)))) from ⟨(gMax_rng (by omega) (wrapU64 _)), (by omega), (by omega), (gMin_rng (by omega) (wrapU64 _))⟩))

set_option maxRecDepth 100000 in
set_option maxHeartbeats 4000000 in
theorem span_work_plain_19_any (a0 : Twork)   (w : World)  (_h_a0 : IU64 a0.a.Lo ∧ IU64 a0.a.Hi ∧ IU64 a0.b.Lo ∧ IU64 a0.b.Hi ∧ IU64 a0.most ∧ IU64 a0.size)  : Calls Try.prog 93 #[.agg #[.int .u64 a0.a.Lo, .int .u64 a0.a.Hi, .int .u64 a0.b.Lo, .int .u64 a0.b.Hi, .bool a0.narrow, .int .u64 a0.most, .int .u64 a0.size], .int .u8 (19 : Int)] w (RetP w (.iface 76 (.agg #[])) (((span_work_plain_19 a0)).map (fun r : (TSpan × TSpan) => (.tuple #[TSpan.v r.1, TSpan.v r.2] : Value)))) := by
 have hs := span_work_plain_19.eq_1 a0
 refine calls_of_CW Try.func93 rfl (n := 130) Try.ntmps93 (by kernel_rfl) [0, 1] (F := [(0, .agg #[.int .u64 a0.a.Lo, .int .u64 a0.a.Hi, .int .u64 a0.b.Lo, .int .u64 a0.b.Hi, .bool a0.narrow, .int .u64 a0.most, .int .u64 a0.size]), (1, .int .u8 19)]) (by kernel_rfl) ?_
 refine CW.seq fun K1 hK1 => ?_
 refine CW.region ?_
 refine WR.box (dst := some 2) (e := 79) (v := .agg #[.int .u64 a0.a.Lo, .int .u64 a0.a.Hi, .int .u64 a0.b.Lo, .int .u64 a0.b.Hi, .bool a0.narrow, .int .u64 a0.most, .int .u64 a0.size]) (by kernel_rfl) #[.int .u64 a0.a.Lo, .int .u64 a0.a.Hi, .int .u64 a0.b.Lo, .int .u64 a0.b.Hi, .bool a0.narrow, .int .u64 a0.most, .int .u64 a0.size] (by kernel_rfl) ?_
 intro g2 w3 hN4
 have hf6 : w.heap.size ≤ g2 := hN4.fresh
 have hfr8 := hN4.fresh
 have hc7 := hN4.chg
 have hz10 := hc7.size
 have hC9 := (Chg.refl [] w).pure hc7
 have hb5 := hN4.blk
 have hg11 := hb5.lt
 refine WR.alloc (dst := some 4) (e := 25) (by kernel_rfl) #[.int .u64 0, .int .u64 0] (by kernel_rfl) ?_
 intro g12 w13 hN14
 have hf16 : w.heap.size ≤ g12 := Nat.le_trans hC9.size hN14.fresh
 have hfr18 := hN14.fresh
 have hc17 := hN14.chg
 have hz20 := hc17.size
 have hC19 := hC9.pure hc17
 have hb15 := hN14.blk
 have hg21 := hb15.lt
 refine WR.alloc (dst := some 5) (e := 25) (by kernel_rfl) #[.int .u64 0, .int .u64 0] (by kernel_rfl) ?_
 intro g22 w23 hN24
 have hf26 : w.heap.size ≤ g22 := Nat.le_trans hC19.size hN24.fresh
 have hfr28 := hN24.fresh
 have hc27 := hN24.chg
 have hz30 := hc27.size
 have hC29 := hC19.pure hc27
 have hb25 := hN24.blk
 have hg31 := hb25.lt
 refine WR.fin (by kernel_rfl) ?_
 refine go hK1 ?_
 refine CW.seq fun K32 hK32 => ?_
 refine CW.seq fun K33 hK33 => ?_
 refine CW.region ?_
 refine WR.batch 1 [(2, pt g2 0), (4, pt g12 0), (5, pt g22 0), (8, .int .u8 19)] (by kernel_rfl) ?_
 refine WR.fin (by kernel_rfl) ?_
 refine go hK33 ?_
 refine CW.block ?_
 refine CW.seq fun K34 hK34 => ?_
 refine CW.region ?_
 refine WR.batch 2 [(2, pt g2 0), (4, pt g12 0), (5, pt g22 0), (8, .int .u8 19), (9, .bool false)] (by kernel_rfl) ?_
 refine WR.fin (by kernel_rfl) ?_
 refine go hK34 ?_
 refine CW.no (by kernel_rfl) ?_
 refine CW.seq fun K35 hK35 => ?_
 refine CW.region ?_
 refine WR.batch 2 [(2, pt g2 0), (4, pt g12 0), (5, pt g22 0), (8, .int .u8 19), (23, .bool false)] (by kernel_rfl) ?_
 refine WR.fin (by kernel_rfl) ?_
 refine go hK35 ?_
 refine CW.no (by kernel_rfl) ?_
 refine CW.seq fun K36 hK36 => ?_
 refine CW.region ?_
 refine WR.batch 2 [(2, pt g2 0), (4, pt g12 0), (5, pt g22 0), (8, .int .u8 19), (46, .bool true)] (by kernel_rfl) ?_
 refine WR.fin (by kernel_rfl) ?_
 refine go hK36 ?_
 refine CW.yes (by kernel_rfl) ?_
 refine CW.seq fun K37 hK37 => ?_
 refine CW.region ?_
 refine WR.batch 2 [(2, pt g2 0), (4, pt g12 0), (5, pt g22 0), (49, pt g2 1)] (by kernel_rfl) ?_
 have hb38 := (hb5.pure hc17).pure hc27
 refine WR.load (dst := some 50) (t := 23) (o := 1) hb38 (by kernel_rfl) (.int .u64 a0.a.Hi) (by kernel_rfl) ?_
 refine WR.batch 2 [(2, pt g2 0), (4, pt g12 0), (5, pt g22 0), (50, .int .u64 a0.a.Hi), (52, pt g2 2)] (by kernel_rfl) ?_
 refine WR.load (dst := some 53) (t := 23) (o := 2) hb38 (by kernel_rfl) (.int .u64 a0.b.Lo) (by kernel_rfl) ?_
 refine WR.batch 1 [(2, pt g2 0), (4, pt g12 0), (5, pt g22 0), (54, .bool (decide (a0.a.Hi > a0.b.Lo)))] (by kernel_rfl) ?_
 rcases hx40 : span_must (decide (a0.a.Hi > a0.b.Lo)) with _ | x39
 ·
  have hs43 := optN hx40 hs
  refine WR.callX (dst := some 55) (by kernel_rfl) (retP_no (g := (fun _ : Unit => (.tuple #[] : Value))) hx40 (span_must_any (decide (a0.a.Hi > a0.b.Lo)) w23  )) ?_
  intro w41 hc42
  have hz45 := hc42.size
  have hC44 := hC29.pure hc42
  exact panicV (P := Try.prog) (fn := Try.f93) (retP_pan hs43 hC44)
 have hs46 := optS hx40 hs
 refine WR.call (dst := some 55) (by kernel_rfl) (retP_yes (g := (fun _ : Unit => (.tuple #[] : Value))) hx40 (span_must_any (decide (a0.a.Hi > a0.b.Lo)) w23  )) ?_
 rintro _ w47 hc48 rfl
 have hz50 := hc48.size
 have hC49 := hC29.pure hc48
 refine WR.fin (by kernel_rfl) ?_
 refine go hK37 ?_
 refine CW.seq fun K51 hK51 => ?_
 refine CW.keep [2, 4, 5] (F' := [(2, pt g2 0), (4, pt g12 0), (5, pt g22 0)]) (by kernel_rfl) ?_
 have hb52 := (hb15.pure hc27).pure hc48
 refine CW.regionG 25 [some (pt g2 0), some (pt g2 0), some (.int .u64 a0.a.Lo), some (pt g2 2), some (pt g2 2), some (.int .u64 a0.b.Lo), some (.int .u64 (IntKind.u64.wrap (a0.b.Lo + (1 : Int)))), some (.int .u64 (gMax a0.a.Lo (IntKind.u64.wrap (a0.b.Lo + (1 : Int))))), some (pt g2 0), some (pt g2 1), some (.int .u64 a0.a.Hi), some (.agg #[.int .u64 (gMax a0.a.Lo (IntKind.u64.wrap (a0.b.Lo + (1 : Int)))), .int .u64 a0.a.Hi]), some (pt g2 2), some (pt g2 2), some (.int .u64 a0.b.Lo), some (pt g2 2), some (pt g2 3), some (.int .u64 a0.b.Hi), some (pt g2 0), some (pt g2 1), some (.int .u64 a0.a.Hi), some (.int .u64 (IntKind.u64.wrap (a0.a.Hi - (1 : Int)))), some (.int .u64 (gMin a0.b.Hi (IntKind.u64.wrap (a0.a.Hi - (1 : Int))))), some (.agg #[.int .u64 a0.b.Lo, .int .u64 (gMin a0.b.Hi (IntKind.u64.wrap (a0.a.Hi - (1 : Int))))]), none] (fun u => [(56, pt g2 0), (57, pt g2 0), (58, .int .u64 a0.a.Lo), (59, pt g2 2), (60, pt g2 2), (61, .int .u64 a0.b.Lo), (62, .int .u64 (IntKind.u64.wrap (a0.b.Lo + (1 : Int)))), (63, .int .u64 (gMax a0.a.Lo (IntKind.u64.wrap (a0.b.Lo + (1 : Int))))), (64, pt g2 0), (65, pt g2 1), (66, .int .u64 a0.a.Hi), (67, .agg #[.int .u64 (gMax a0.a.Lo (IntKind.u64.wrap (a0.b.Lo + (1 : Int)))), .int .u64 a0.a.Hi]), (68, pt g2 2), (69, pt g2 2), (70, .int .u64 a0.b.Lo), (71, pt g2 2), (72, pt g2 3), (73, .int .u64 a0.b.Hi), (74, pt g2 0), (75, pt g2 1), (76, .int .u64 a0.a.Hi), (77, .int .u64 (IntKind.u64.wrap (a0.a.Hi - (1 : Int)))), (78, .int .u64 (gMin a0.b.Hi (IntKind.u64.wrap (a0.a.Hi - (1 : Int))))), (79, .agg #[.int .u64 a0.b.Lo, .int .u64 (gMin a0.b.Hi (IntKind.u64.wrap (a0.a.Hi - (1 : Int))))]), (2, pt g2 0), (4, pt g12 0), (5, pt g22 0)]) (fun _ => by kernel_rfl) (by kernel_rfl) [(24, g12)] (fun i w' => match i with | 0 => True | 1 => True | 2 => True | 3 => True | 4 => True | 5 => True | 6 => True | 7 => True | 8 => True | 9 => True | 10 => True | 11 => True | 12 => True | 13 => True | 14 => True | 15 => True | 16 => True | 17 => True | 18 => True | 19 => True | 20 => True | 21 => True | 22 => True | 23 => True | 24 => Blk w' g12 #[.int .u64 0, .int .u64 0] 25 | _ => True) (fun j => match j with | 0 => trivial | 1 => trivial | 2 => trivial | 3 => trivial | 4 => trivial | 5 => trivial | 6 => trivial | 7 => trivial | 8 => trivial | 9 => trivial | 10 => trivial | 11 => trivial | 12 => trivial | 13 => trivial | 14 => trivial | 15 => trivial | 16 => trivial | 17 => trivial | 18 => trivial | 19 => trivial | 20 => trivial | 21 => trivial | 22 => trivial | 23 => trivial | 24 => hb52.pure (Chg.drew w47) | j + 25 => trivial) ?_ [] [] (by kernel_rfl) (fun w' => Chg [g12] w47 w') (fun i v w' => match i with | 0 => True | 1 => True | 2 => True | 3 => True | 4 => True | 5 => True | 6 => True | 7 => True | 8 => True | 9 => True | 10 => True | 11 => True | 12 => True | 13 => True | 14 => True | 15 => True | 16 => True | 17 => True | 18 => True | 19 => True | 20 => True | 21 => True | 22 => True | 23 => True | 24 => Blk w' g12 #[.int .u64 (gMax a0.a.Lo (IntKind.u64.wrap (a0.b.Lo + (1 : Int)))), .int .u64 a0.a.Hi] 25 | _ => True) (fun j x w hj h => absurd hj (by simp)) (by kernel_rfl) (by kernel_rfl) (by kernel_rfl) (by kernel_rfl) ((Chg.drew w47).weak (by simp)) (fun _ _ _ h h' => h.step h' (fun t ht => .inl (cL_sub t ht))) ?_ (obsG_batch 2 0 23 (fun _ _ => by kernel_rfl) (by kernel_rfl) ⟨?_, (obsG_batch 2 3 20 (fun _ _ => by kernel_rfl) (by kernel_rfl) ⟨?_, (obsG_batch 4 6 15 (fun _ _ => by kernel_rfl) (by kernel_rfl) ⟨?_, (obsG_batch 3 11 11 (fun _ _ => by kernel_rfl) (by kernel_rfl) ⟨?_, (obsG_batch 2 15 8 (fun _ _ => by kernel_rfl) (by kernel_rfl) ⟨?_, (obsG_batch 2 18 5 (fun _ _ => by kernel_rfl) (by kernel_rfl) ⟨?_, (obsG_batch 3 21 1 (fun _ _ => by kernel_rfl) (by kernel_rfl) ⟨?_, trivial⟩)⟩)⟩)⟩)⟩)⟩)⟩) ?_
 ·
  intro i j w1 w2 hij h hc
  match j, hij, h with
  | 0, hij, h => exact trivial
  | 1, hij, h => exact trivial
  | 2, hij, h => exact trivial
  | 3, hij, h => exact trivial
  | 4, hij, h => exact trivial
  | 5, hij, h => exact trivial
  | 6, hij, h => exact trivial
  | 7, hij, h => exact trivial
  | 8, hij, h => exact trivial
  | 9, hij, h => exact trivial
  | 10, hij, h => exact trivial
  | 11, hij, h => exact trivial
  | 12, hij, h => exact trivial
  | 13, hij, h => exact trivial
  | 14, hij, h => exact trivial
  | 15, hij, h => exact trivial
  | 16, hij, h => exact trivial
  | 17, hij, h => exact trivial
  | 18, hij, h => exact trivial
  | 19, hij, h => exact trivial
  | 20, hij, h => exact trivial
  | 21, hij, h => exact trivial
  | 22, hij, h => exact trivial
  | 23, hij, h => exact trivial
  | 24, hij, h => exact h.chg hc (cL_not (by intro p hp e; simp only [List.mem_cons, List.not_mem_nil, or_false] at hp; rcases hp with rfl <;> (simp only at e ⊢; omega)))
  | n + 25, _, _ => trivial
 ·
  intro i j v w1 w2 hij h hc
  match j, hij, h with
  | 0, _, _ => trivial
  | 1, _, _ => trivial
  | 2, _, _ => trivial
  | 3, _, _ => trivial
  | 4, _, _ => trivial
  | 5, _, _ => trivial
  | 6, _, _ => trivial
  | 7, _, _ => trivial
  | 8, _, _ => trivial
  | 9, _, _ => trivial
  | 10, _, _ => trivial
  | 11, _, _ => trivial
  | 12, _, _ => trivial
  | 13, _, _ => trivial
  | 14, _, _ => trivial
  | 15, _, _ => trivial
  | 16, _, _ => trivial
  | 17, _, _ => trivial
  | 18, _, _ => trivial
  | 19, _, _ => trivial
  | 20, _, _ => trivial
  | 21, _, _ => trivial
  | 22, _, _ => trivial
  | 23, _, _ => trivial
  | 24, hij, h => exact h.chg hc (cL_not (by intro p hp e; simp only [List.mem_cons, List.not_mem_nil, or_false] at hp; rcases hp with rfl <;> (simp only at e ⊢; omega)))
  | n + 25, _, _ => trivial
 ·
  intro u53 w54 hW55 hPr58 hp56 hal57
  have hz60 := hW55.size
  have hC59 := hC49.step1 hW55 (by omega)
  have hb61 : Blk w54 g12 #[.int .u64 0, .int .u64 0] 25 := hPr58 24 (.inr (.one (by kernel_rfl)))
  have hb62 := (hb38.pure hc48).chg1 hW55 (by omega)
  refine WR.load (dst := some 58) (t := 23) (o := 0) hb62 (by kernel_rfl) (.int .u64 a0.a.Lo) (by kernel_rfl) ?_
  refine WR.fin (by kernel_rfl) ?_
  exact fun _ ha => ⟨Chg.refl _ _, _, ha, ⟨⟨fun h => absurd h (by decide), alNone (by decide)⟩, rfl⟩⟩
 ·
  intro u63 w64 hW65 hPr68 hp66 hal67
  have hz70 := hW65.size
  have hC69 := hC49.step1 hW65 (by omega)
  have hb71 : Blk w64 g12 #[.int .u64 0, .int .u64 0] 25 := hPr68 24 (.inr (.one (by kernel_rfl)))
  have hb72 := (hb38.pure hc48).chg1 hW65 (by omega)
  refine WR.load (dst := some 61) (t := 23) (o := 2) hb72 (by kernel_rfl) (.int .u64 a0.b.Lo) (by kernel_rfl) ?_
  refine WR.fin (by kernel_rfl) ?_
  exact fun _ ha => ⟨Chg.refl _ _, _, ha, ⟨⟨fun h => absurd h (by decide), alNone (by decide)⟩, rfl⟩⟩
 ·
  intro u73 w74 hW75 hPr78 hp76 hal77
  have hz80 := hW75.size
  have hC79 := hC49.step1 hW75 (by omega)
  have hb81 : Blk w74 g12 #[.int .u64 0, .int .u64 0] 25 := hPr78 24 (.inr (.one (by kernel_rfl)))
  have hb82 := (hb38.pure hc48).chg1 hW75 (by omega)
  refine WR.load (dst := some 66) (t := 23) (o := 1) hb82 (by kernel_rfl) (.int .u64 a0.a.Hi) (by kernel_rfl) ?_
  refine WR.fin (by kernel_rfl) ?_
  exact fun _ ha => ⟨Chg.refl _ _, _, ha, ⟨⟨fun h => absurd h (by decide), alNone (by decide)⟩, rfl⟩⟩
 ·
  intro u83 w84 hW85 _ hp86 hal87
  have hz90 := hW85.size
  have hC89 := hC49.step1 hW85 (by omega)
  have hb91 := (hb38.pure hc48).chg1 hW85 (by omega)
  refine WR.load (dst := some 70) (t := 23) (o := 2) hb91 (by kernel_rfl) (.int .u64 a0.b.Lo) (by kernel_rfl) ?_
  refine WR.fin (by kernel_rfl) ?_
  exact fun _ ha => ⟨Chg.refl _ _, _, ha, ⟨⟨fun h => absurd h (by decide), alNone (by decide)⟩, rfl⟩⟩
 ·
  intro u92 w93 hW94 _ hp95 hal96
  have hz99 := hW94.size
  have hC98 := hC49.step1 hW94 (by omega)
  have hb100 := (hb38.pure hc48).chg1 hW94 (by omega)
  refine WR.load (dst := some 73) (t := 23) (o := 3) hb100 (by kernel_rfl) (.int .u64 a0.b.Hi) (by kernel_rfl) ?_
  refine WR.fin (by kernel_rfl) ?_
  exact fun _ ha => ⟨Chg.refl _ _, _, ha, ⟨⟨fun h => absurd h (by decide), alNone (by decide)⟩, rfl⟩⟩
 ·
  intro u101 w102 hW103 _ hp104 hal105
  have hz108 := hW103.size
  have hC107 := hC49.step1 hW103 (by omega)
  have hb109 := (hb38.pure hc48).chg1 hW103 (by omega)
  refine WR.load (dst := some 76) (t := 23) (o := 1) hb109 (by kernel_rfl) (.int .u64 a0.a.Hi) (by kernel_rfl) ?_
  refine WR.fin (by kernel_rfl) ?_
  exact fun _ ha => ⟨Chg.refl _ _, _, ha, ⟨⟨fun h => absurd h (by decide), alNone (by decide)⟩, rfl⟩⟩
 ·
  intro u110 w111 hW112 hPr115 hp113 hal114
  have hz117 := hW112.size
  have hC116 := hC49.step1 hW112 (by omega)
  have hb118 : Blk w111 g12 #[.int .u64 0, .int .u64 0] 25 := hPr115 24 (.inl rfl)
  refine WR.store (t := 25) (o := 0) (v := .agg #[.int .u64 (gMax a0.a.Lo (IntKind.u64.wrap (a0.b.Lo + (1 : Int)))), .int .u64 a0.a.Hi]) hb118 (by kernel_rfl) #[.int .u64 (gMax a0.a.Lo (IntKind.u64.wrap (a0.b.Lo + (1 : Int)))), .int .u64 a0.a.Hi] (by kernel_rfl) ?_
  intro w119 hb120 hc121
  have hz123 := hc121.size
  have hC122 := hC116.step1 hc121 (by omega)
  refine WR.fin (by kernel_rfl) ?_
  exact fun _ ha => ⟨hc121, undef, ha, ⟨⟨fun h => absurd h (by decide), alNone (by decide)⟩, hb120⟩⟩
 intro u124 w125 hW126 hr127 _ _
 have hz131 := hW126.size
 have hC130 := hC49.step1 hW126 (by omega)
 have hp132 : Blk w125 g12 #[.int .u64 (gMax a0.a.Lo (IntKind.u64.wrap (a0.b.Lo + (1 : Int)))), .int .u64 a0.a.Hi] 25 := hr127 24 (by omega) (by kernel_rfl)
 refine WR.keep [4, 5, 79] (F' := [(4, pt g12 0), (5, pt g22 0), (79, .agg #[.int .u64 a0.b.Lo, .int .u64 (gMin a0.b.Hi (IntKind.u64.wrap (a0.a.Hi - (1 : Int))))])]) (by kernel_rfl) ?_
 have hb136 := (hb25.pure hc48).chg1 hW126 (by omega)
 refine WR.store (t := 25) (o := 0) (v := .agg #[.int .u64 a0.b.Lo, .int .u64 (gMin a0.b.Hi (IntKind.u64.wrap (a0.a.Hi - (1 : Int))))]) hb136 (by kernel_rfl) #[.int .u64 a0.b.Lo, .int .u64 (gMin a0.b.Hi (IntKind.u64.wrap (a0.a.Hi - (1 : Int))))] (by kernel_rfl) ?_
 intro w133 hb134 hc135
 have hz138 := hc135.size
 have hC137 := hC130.step1 hc135 (by omega)
 refine WR.fin (by kernel_rfl) ?_
 refine go hK51 ?_
 refine CW.ret ?_
 have hb139 := hp132.chg1 hc135 (by omega)
 exact retC [.agg #[.int .u64 (gMax a0.a.Lo (IntKind.u64.wrap (a0.b.Lo + (1 : Int)))), .int .u64 a0.a.Hi], .agg #[.int .u64 a0.b.Lo, .int .u64 (gMin a0.b.Hi (IntKind.u64.wrap (a0.a.Hi - (1 : Int))))]] _ rfl ⟨resCell hb139 rfl (by kernel_rfl), resCell hb134 rfl (by kernel_rfl), trivial⟩ (retP_ret (g := (fun r : (TSpan × TSpan) => (.tuple #[TSpan.v r.1, TSpan.v r.2] : Value))) hs46 rfl hC137)

def span_work_plain_20 (a0 : Twork)  : Option (TSpan × TSpan) := (optF (span_must (decide (a0.a.Hi ≥ a0.b.Lo))) (none) fun _ => some ((⟨(gMax a0.a.Lo a0.b.Lo), a0.a.Hi⟩ : TSpan), (⟨a0.b.Lo, (gMin a0.b.Hi a0.a.Hi)⟩ : TSpan)))

theorem span_work_plain_20_ok (a0 : Twork)  (_h_a0 : IU64 a0.a.Lo ∧ IU64 a0.a.Hi ∧ IU64 a0.b.Lo ∧ IU64 a0.b.Hi ∧ IU64 a0.most ∧ IU64 a0.size)  : ∀ y, (span_work_plain_20 a0) = some y → IU64 y.1.Lo ∧ IU64 y.1.Hi ∧ IU64 y.2.Lo ∧ IU64 y.2.Hi := by
 rw [span_work_plain_20.eq_1]
 refine optR (p := fun r : Option (TSpan × TSpan) => ∀ y, r = some y → IU64 y.1.Lo ∧ IU64 y.1.Hi ∧ IU64 y.2.Lo ∧ IU64 y.2.Hi) (fun _ => ?_) (fun x40 _ => ?_)
 ·
  intro y hy; cases hy
 intro y hy; cases hy; exact (by exact (show IU64 (gMax a0.a.Lo a0.b.Lo) ∧ IU64 a0.a.Hi ∧ IU64 a0.b.Lo ∧ IU64 (gMin a0.b.Hi a0.a.Hi) from ⟨(gMax_rng (by omega) (by omega)), (by omega), (by omega), (gMin_rng (by omega) (by omega))⟩))

set_option maxRecDepth 100000 in
set_option maxHeartbeats 4000000 in
theorem span_work_plain_20_any (a0 : Twork)   (w : World)  (_h_a0 : IU64 a0.a.Lo ∧ IU64 a0.a.Hi ∧ IU64 a0.b.Lo ∧ IU64 a0.b.Hi ∧ IU64 a0.most ∧ IU64 a0.size)  : Calls Try.prog 93 #[.agg #[.int .u64 a0.a.Lo, .int .u64 a0.a.Hi, .int .u64 a0.b.Lo, .int .u64 a0.b.Hi, .bool a0.narrow, .int .u64 a0.most, .int .u64 a0.size], .int .u8 (20 : Int)] w (RetP w (.iface 76 (.agg #[])) (((span_work_plain_20 a0)).map (fun r : (TSpan × TSpan) => (.tuple #[TSpan.v r.1, TSpan.v r.2] : Value)))) := by
 have hs := span_work_plain_20.eq_1 a0
 refine calls_of_CW Try.func93 rfl (n := 130) Try.ntmps93 (by kernel_rfl) [0, 1] (F := [(0, .agg #[.int .u64 a0.a.Lo, .int .u64 a0.a.Hi, .int .u64 a0.b.Lo, .int .u64 a0.b.Hi, .bool a0.narrow, .int .u64 a0.most, .int .u64 a0.size]), (1, .int .u8 20)]) (by kernel_rfl) ?_
 refine CW.seq fun K1 hK1 => ?_
 refine CW.region ?_
 refine WR.box (dst := some 2) (e := 79) (v := .agg #[.int .u64 a0.a.Lo, .int .u64 a0.a.Hi, .int .u64 a0.b.Lo, .int .u64 a0.b.Hi, .bool a0.narrow, .int .u64 a0.most, .int .u64 a0.size]) (by kernel_rfl) #[.int .u64 a0.a.Lo, .int .u64 a0.a.Hi, .int .u64 a0.b.Lo, .int .u64 a0.b.Hi, .bool a0.narrow, .int .u64 a0.most, .int .u64 a0.size] (by kernel_rfl) ?_
 intro g2 w3 hN4
 have hf6 : w.heap.size ≤ g2 := hN4.fresh
 have hfr8 := hN4.fresh
 have hc7 := hN4.chg
 have hz10 := hc7.size
 have hC9 := (Chg.refl [] w).pure hc7
 have hb5 := hN4.blk
 have hg11 := hb5.lt
 refine WR.alloc (dst := some 4) (e := 25) (by kernel_rfl) #[.int .u64 0, .int .u64 0] (by kernel_rfl) ?_
 intro g12 w13 hN14
 have hf16 : w.heap.size ≤ g12 := Nat.le_trans hC9.size hN14.fresh
 have hfr18 := hN14.fresh
 have hc17 := hN14.chg
 have hz20 := hc17.size
 have hC19 := hC9.pure hc17
 have hb15 := hN14.blk
 have hg21 := hb15.lt
 refine WR.alloc (dst := some 5) (e := 25) (by kernel_rfl) #[.int .u64 0, .int .u64 0] (by kernel_rfl) ?_
 intro g22 w23 hN24
 have hf26 : w.heap.size ≤ g22 := Nat.le_trans hC19.size hN24.fresh
 have hfr28 := hN24.fresh
 have hc27 := hN24.chg
 have hz30 := hc27.size
 have hC29 := hC19.pure hc27
 have hb25 := hN24.blk
 have hg31 := hb25.lt
 refine WR.fin (by kernel_rfl) ?_
 refine go hK1 ?_
 refine CW.seq fun K32 hK32 => ?_
 refine CW.seq fun K33 hK33 => ?_
 refine CW.region ?_
 refine WR.batch 1 [(2, pt g2 0), (4, pt g12 0), (5, pt g22 0), (8, .int .u8 20)] (by kernel_rfl) ?_
 refine WR.fin (by kernel_rfl) ?_
 refine go hK33 ?_
 refine CW.block ?_
 refine CW.seq fun K34 hK34 => ?_
 refine CW.region ?_
 refine WR.batch 2 [(2, pt g2 0), (4, pt g12 0), (5, pt g22 0), (8, .int .u8 20), (9, .bool false)] (by kernel_rfl) ?_
 refine WR.fin (by kernel_rfl) ?_
 refine go hK34 ?_
 refine CW.no (by kernel_rfl) ?_
 refine CW.seq fun K35 hK35 => ?_
 refine CW.region ?_
 refine WR.batch 2 [(2, pt g2 0), (4, pt g12 0), (5, pt g22 0), (8, .int .u8 20), (23, .bool false)] (by kernel_rfl) ?_
 refine WR.fin (by kernel_rfl) ?_
 refine go hK35 ?_
 refine CW.no (by kernel_rfl) ?_
 refine CW.seq fun K36 hK36 => ?_
 refine CW.region ?_
 refine WR.batch 2 [(2, pt g2 0), (4, pt g12 0), (5, pt g22 0), (8, .int .u8 20), (46, .bool false)] (by kernel_rfl) ?_
 refine WR.fin (by kernel_rfl) ?_
 refine go hK36 ?_
 refine CW.no (by kernel_rfl) ?_
 refine CW.seq fun K37 hK37 => ?_
 refine CW.region ?_
 refine WR.batch 2 [(2, pt g2 0), (4, pt g12 0), (5, pt g22 0), (8, .int .u8 20), (80, .bool true)] (by kernel_rfl) ?_
 refine WR.fin (by kernel_rfl) ?_
 refine go hK37 ?_
 refine CW.yes (by kernel_rfl) ?_
 refine CW.seq fun K38 hK38 => ?_
 refine CW.region ?_
 refine WR.batch 2 [(2, pt g2 0), (4, pt g12 0), (5, pt g22 0), (83, pt g2 1)] (by kernel_rfl) ?_
 have hb39 := (hb5.pure hc17).pure hc27
 refine WR.load (dst := some 84) (t := 23) (o := 1) hb39 (by kernel_rfl) (.int .u64 a0.a.Hi) (by kernel_rfl) ?_
 refine WR.batch 2 [(2, pt g2 0), (4, pt g12 0), (5, pt g22 0), (84, .int .u64 a0.a.Hi), (86, pt g2 2)] (by kernel_rfl) ?_
 refine WR.load (dst := some 87) (t := 23) (o := 2) hb39 (by kernel_rfl) (.int .u64 a0.b.Lo) (by kernel_rfl) ?_
 refine WR.batch 1 [(2, pt g2 0), (4, pt g12 0), (5, pt g22 0), (88, .bool (decide (a0.a.Hi ≥ a0.b.Lo)))] (by kernel_rfl) ?_
 rcases hx41 : span_must (decide (a0.a.Hi ≥ a0.b.Lo)) with _ | x40
 ·
  have hs44 := optN hx41 hs
  refine WR.callX (dst := some 89) (by kernel_rfl) (retP_no (g := (fun _ : Unit => (.tuple #[] : Value))) hx41 (span_must_any (decide (a0.a.Hi ≥ a0.b.Lo)) w23  )) ?_
  intro w42 hc43
  have hz46 := hc43.size
  have hC45 := hC29.pure hc43
  exact panicV (P := Try.prog) (fn := Try.f93) (retP_pan hs44 hC45)
 have hs47 := optS hx41 hs
 refine WR.call (dst := some 89) (by kernel_rfl) (retP_yes (g := (fun _ : Unit => (.tuple #[] : Value))) hx41 (span_must_any (decide (a0.a.Hi ≥ a0.b.Lo)) w23  )) ?_
 rintro _ w48 hc49 rfl
 have hz51 := hc49.size
 have hC50 := hC29.pure hc49
 refine WR.fin (by kernel_rfl) ?_
 refine go hK38 ?_
 refine CW.seq fun K52 hK52 => ?_
 refine CW.keep [2, 4, 5] (F' := [(2, pt g2 0), (4, pt g12 0), (5, pt g22 0)]) (by kernel_rfl) ?_
 have hb53 := (hb15.pure hc27).pure hc49
 refine CW.regionG 23 [some (pt g2 0), some (pt g2 0), some (.int .u64 a0.a.Lo), some (pt g2 2), some (pt g2 2), some (.int .u64 a0.b.Lo), some (.int .u64 (gMax a0.a.Lo a0.b.Lo)), some (pt g2 0), some (pt g2 1), some (.int .u64 a0.a.Hi), some (.agg #[.int .u64 (gMax a0.a.Lo a0.b.Lo), .int .u64 a0.a.Hi]), some (pt g2 2), some (pt g2 2), some (.int .u64 a0.b.Lo), some (pt g2 2), some (pt g2 3), some (.int .u64 a0.b.Hi), some (pt g2 0), some (pt g2 1), some (.int .u64 a0.a.Hi), some (.int .u64 (gMin a0.b.Hi a0.a.Hi)), some (.agg #[.int .u64 a0.b.Lo, .int .u64 (gMin a0.b.Hi a0.a.Hi)]), none] (fun u => [(90, pt g2 0), (91, pt g2 0), (92, .int .u64 a0.a.Lo), (93, pt g2 2), (94, pt g2 2), (95, .int .u64 a0.b.Lo), (96, .int .u64 (gMax a0.a.Lo a0.b.Lo)), (97, pt g2 0), (98, pt g2 1), (99, .int .u64 a0.a.Hi), (100, .agg #[.int .u64 (gMax a0.a.Lo a0.b.Lo), .int .u64 a0.a.Hi]), (101, pt g2 2), (102, pt g2 2), (103, .int .u64 a0.b.Lo), (104, pt g2 2), (105, pt g2 3), (106, .int .u64 a0.b.Hi), (107, pt g2 0), (108, pt g2 1), (109, .int .u64 a0.a.Hi), (110, .int .u64 (gMin a0.b.Hi a0.a.Hi)), (111, .agg #[.int .u64 a0.b.Lo, .int .u64 (gMin a0.b.Hi a0.a.Hi)]), (2, pt g2 0), (4, pt g12 0), (5, pt g22 0)]) (fun _ => by kernel_rfl) (by kernel_rfl) [(22, g12)] (fun i w' => match i with | 0 => True | 1 => True | 2 => True | 3 => True | 4 => True | 5 => True | 6 => True | 7 => True | 8 => True | 9 => True | 10 => True | 11 => True | 12 => True | 13 => True | 14 => True | 15 => True | 16 => True | 17 => True | 18 => True | 19 => True | 20 => True | 21 => True | 22 => Blk w' g12 #[.int .u64 0, .int .u64 0] 25 | _ => True) (fun j => match j with | 0 => trivial | 1 => trivial | 2 => trivial | 3 => trivial | 4 => trivial | 5 => trivial | 6 => trivial | 7 => trivial | 8 => trivial | 9 => trivial | 10 => trivial | 11 => trivial | 12 => trivial | 13 => trivial | 14 => trivial | 15 => trivial | 16 => trivial | 17 => trivial | 18 => trivial | 19 => trivial | 20 => trivial | 21 => trivial | 22 => hb53.pure (Chg.drew w48) | j + 23 => trivial) ?_ [] [] (by kernel_rfl) (fun w' => Chg [g12] w48 w') (fun i v w' => match i with | 0 => True | 1 => True | 2 => True | 3 => True | 4 => True | 5 => True | 6 => True | 7 => True | 8 => True | 9 => True | 10 => True | 11 => True | 12 => True | 13 => True | 14 => True | 15 => True | 16 => True | 17 => True | 18 => True | 19 => True | 20 => True | 21 => True | 22 => Blk w' g12 #[.int .u64 (gMax a0.a.Lo a0.b.Lo), .int .u64 a0.a.Hi] 25 | _ => True) (fun j x w hj h => absurd hj (by simp)) (by kernel_rfl) (by kernel_rfl) (by kernel_rfl) (by kernel_rfl) ((Chg.drew w48).weak (by simp)) (fun _ _ _ h h' => h.step h' (fun t ht => .inl (cL_sub t ht))) ?_ (obsG_batch 2 0 21 (fun _ _ => by kernel_rfl) (by kernel_rfl) ⟨?_, (obsG_batch 2 3 18 (fun _ _ => by kernel_rfl) (by kernel_rfl) ⟨?_, (obsG_batch 3 6 14 (fun _ _ => by kernel_rfl) (by kernel_rfl) ⟨?_, (obsG_batch 3 10 10 (fun _ _ => by kernel_rfl) (by kernel_rfl) ⟨?_, (obsG_batch 2 14 7 (fun _ _ => by kernel_rfl) (by kernel_rfl) ⟨?_, (obsG_batch 2 17 4 (fun _ _ => by kernel_rfl) (by kernel_rfl) ⟨?_, (obsG_batch 2 20 1 (fun _ _ => by kernel_rfl) (by kernel_rfl) ⟨?_, trivial⟩)⟩)⟩)⟩)⟩)⟩)⟩) ?_
 ·
  intro i j w1 w2 hij h hc
  match j, hij, h with
  | 0, hij, h => exact trivial
  | 1, hij, h => exact trivial
  | 2, hij, h => exact trivial
  | 3, hij, h => exact trivial
  | 4, hij, h => exact trivial
  | 5, hij, h => exact trivial
  | 6, hij, h => exact trivial
  | 7, hij, h => exact trivial
  | 8, hij, h => exact trivial
  | 9, hij, h => exact trivial
  | 10, hij, h => exact trivial
  | 11, hij, h => exact trivial
  | 12, hij, h => exact trivial
  | 13, hij, h => exact trivial
  | 14, hij, h => exact trivial
  | 15, hij, h => exact trivial
  | 16, hij, h => exact trivial
  | 17, hij, h => exact trivial
  | 18, hij, h => exact trivial
  | 19, hij, h => exact trivial
  | 20, hij, h => exact trivial
  | 21, hij, h => exact trivial
  | 22, hij, h => exact h.chg hc (cL_not (by intro p hp e; simp only [List.mem_cons, List.not_mem_nil, or_false] at hp; rcases hp with rfl <;> (simp only at e ⊢; omega)))
  | n + 23, _, _ => trivial
 ·
  intro i j v w1 w2 hij h hc
  match j, hij, h with
  | 0, _, _ => trivial
  | 1, _, _ => trivial
  | 2, _, _ => trivial
  | 3, _, _ => trivial
  | 4, _, _ => trivial
  | 5, _, _ => trivial
  | 6, _, _ => trivial
  | 7, _, _ => trivial
  | 8, _, _ => trivial
  | 9, _, _ => trivial
  | 10, _, _ => trivial
  | 11, _, _ => trivial
  | 12, _, _ => trivial
  | 13, _, _ => trivial
  | 14, _, _ => trivial
  | 15, _, _ => trivial
  | 16, _, _ => trivial
  | 17, _, _ => trivial
  | 18, _, _ => trivial
  | 19, _, _ => trivial
  | 20, _, _ => trivial
  | 21, _, _ => trivial
  | 22, hij, h => exact h.chg hc (cL_not (by intro p hp e; simp only [List.mem_cons, List.not_mem_nil, or_false] at hp; rcases hp with rfl <;> (simp only at e ⊢; omega)))
  | n + 23, _, _ => trivial
 ·
  intro u54 w55 hW56 hPr59 hp57 hal58
  have hz61 := hW56.size
  have hC60 := hC50.step1 hW56 (by omega)
  have hb62 : Blk w55 g12 #[.int .u64 0, .int .u64 0] 25 := hPr59 22 (.inr (.one (by kernel_rfl)))
  have hb63 := (hb39.pure hc49).chg1 hW56 (by omega)
  refine WR.load (dst := some 92) (t := 23) (o := 0) hb63 (by kernel_rfl) (.int .u64 a0.a.Lo) (by kernel_rfl) ?_
  refine WR.fin (by kernel_rfl) ?_
  exact fun _ ha => ⟨Chg.refl _ _, _, ha, ⟨⟨fun h => absurd h (by decide), alNone (by decide)⟩, rfl⟩⟩
 ·
  intro u64 w65 hW66 hPr69 hp67 hal68
  have hz71 := hW66.size
  have hC70 := hC50.step1 hW66 (by omega)
  have hb72 : Blk w65 g12 #[.int .u64 0, .int .u64 0] 25 := hPr69 22 (.inr (.one (by kernel_rfl)))
  have hb73 := (hb39.pure hc49).chg1 hW66 (by omega)
  refine WR.load (dst := some 95) (t := 23) (o := 2) hb73 (by kernel_rfl) (.int .u64 a0.b.Lo) (by kernel_rfl) ?_
  refine WR.fin (by kernel_rfl) ?_
  exact fun _ ha => ⟨Chg.refl _ _, _, ha, ⟨⟨fun h => absurd h (by decide), alNone (by decide)⟩, rfl⟩⟩
 ·
  intro u74 w75 hW76 hPr79 hp77 hal78
  have hz81 := hW76.size
  have hC80 := hC50.step1 hW76 (by omega)
  have hb82 : Blk w75 g12 #[.int .u64 0, .int .u64 0] 25 := hPr79 22 (.inr (.one (by kernel_rfl)))
  have hb83 := (hb39.pure hc49).chg1 hW76 (by omega)
  refine WR.load (dst := some 99) (t := 23) (o := 1) hb83 (by kernel_rfl) (.int .u64 a0.a.Hi) (by kernel_rfl) ?_
  refine WR.fin (by kernel_rfl) ?_
  exact fun _ ha => ⟨Chg.refl _ _, _, ha, ⟨⟨fun h => absurd h (by decide), alNone (by decide)⟩, rfl⟩⟩
 ·
  intro u84 w85 hW86 _ hp87 hal88
  have hz91 := hW86.size
  have hC90 := hC50.step1 hW86 (by omega)
  have hb92 := (hb39.pure hc49).chg1 hW86 (by omega)
  refine WR.load (dst := some 103) (t := 23) (o := 2) hb92 (by kernel_rfl) (.int .u64 a0.b.Lo) (by kernel_rfl) ?_
  refine WR.fin (by kernel_rfl) ?_
  exact fun _ ha => ⟨Chg.refl _ _, _, ha, ⟨⟨fun h => absurd h (by decide), alNone (by decide)⟩, rfl⟩⟩
 ·
  intro u93 w94 hW95 _ hp96 hal97
  have hz100 := hW95.size
  have hC99 := hC50.step1 hW95 (by omega)
  have hb101 := (hb39.pure hc49).chg1 hW95 (by omega)
  refine WR.load (dst := some 106) (t := 23) (o := 3) hb101 (by kernel_rfl) (.int .u64 a0.b.Hi) (by kernel_rfl) ?_
  refine WR.fin (by kernel_rfl) ?_
  exact fun _ ha => ⟨Chg.refl _ _, _, ha, ⟨⟨fun h => absurd h (by decide), alNone (by decide)⟩, rfl⟩⟩
 ·
  intro u102 w103 hW104 _ hp105 hal106
  have hz109 := hW104.size
  have hC108 := hC50.step1 hW104 (by omega)
  have hb110 := (hb39.pure hc49).chg1 hW104 (by omega)
  refine WR.load (dst := some 109) (t := 23) (o := 1) hb110 (by kernel_rfl) (.int .u64 a0.a.Hi) (by kernel_rfl) ?_
  refine WR.fin (by kernel_rfl) ?_
  exact fun _ ha => ⟨Chg.refl _ _, _, ha, ⟨⟨fun h => absurd h (by decide), alNone (by decide)⟩, rfl⟩⟩
 ·
  intro u111 w112 hW113 hPr116 hp114 hal115
  have hz118 := hW113.size
  have hC117 := hC50.step1 hW113 (by omega)
  have hb119 : Blk w112 g12 #[.int .u64 0, .int .u64 0] 25 := hPr116 22 (.inl rfl)
  refine WR.store (t := 25) (o := 0) (v := .agg #[.int .u64 (gMax a0.a.Lo a0.b.Lo), .int .u64 a0.a.Hi]) hb119 (by kernel_rfl) #[.int .u64 (gMax a0.a.Lo a0.b.Lo), .int .u64 a0.a.Hi] (by kernel_rfl) ?_
  intro w120 hb121 hc122
  have hz124 := hc122.size
  have hC123 := hC117.step1 hc122 (by omega)
  refine WR.fin (by kernel_rfl) ?_
  exact fun _ ha => ⟨hc122, undef, ha, ⟨⟨fun h => absurd h (by decide), alNone (by decide)⟩, hb121⟩⟩
 intro u125 w126 hW127 hr128 _ _
 have hz132 := hW127.size
 have hC131 := hC50.step1 hW127 (by omega)
 have hp133 : Blk w126 g12 #[.int .u64 (gMax a0.a.Lo a0.b.Lo), .int .u64 a0.a.Hi] 25 := hr128 22 (by omega) (by kernel_rfl)
 refine WR.keep [4, 5, 111] (F' := [(4, pt g12 0), (5, pt g22 0), (111, .agg #[.int .u64 a0.b.Lo, .int .u64 (gMin a0.b.Hi a0.a.Hi)])]) (by kernel_rfl) ?_
 have hb137 := (hb25.pure hc49).chg1 hW127 (by omega)
 refine WR.store (t := 25) (o := 0) (v := .agg #[.int .u64 a0.b.Lo, .int .u64 (gMin a0.b.Hi a0.a.Hi)]) hb137 (by kernel_rfl) #[.int .u64 a0.b.Lo, .int .u64 (gMin a0.b.Hi a0.a.Hi)] (by kernel_rfl) ?_
 intro w134 hb135 hc136
 have hz139 := hc136.size
 have hC138 := hC131.step1 hc136 (by omega)
 refine WR.fin (by kernel_rfl) ?_
 refine go hK52 ?_
 refine CW.ret ?_
 have hb140 := hp133.chg1 hc136 (by omega)
 exact retC [.agg #[.int .u64 (gMax a0.a.Lo a0.b.Lo), .int .u64 a0.a.Hi], .agg #[.int .u64 a0.b.Lo, .int .u64 (gMin a0.b.Hi a0.a.Hi)]] _ rfl ⟨resCell hb140 rfl (by kernel_rfl), resCell hb135 rfl (by kernel_rfl), trivial⟩ (retP_ret (g := (fun r : (TSpan × TSpan) => (.tuple #[TSpan.v r.1, TSpan.v r.2] : Value))) hs47 rfl hC138)
end Go.V
