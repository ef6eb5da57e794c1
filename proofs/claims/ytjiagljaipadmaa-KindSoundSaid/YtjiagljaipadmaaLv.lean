import Derived.Test.YtjiagljaipadmaaProg
import Derived.Test.YtjiagljaipadmaaLs
namespace Go.V
open Go.RowKit Go.Proofs
def law12_made_J1 (a0 : Int) (a1 : Bool) (_a2 : Int) (a3 : Int) (_a4 : Int) (a5 : Int) (v100 : Int) (v200 : Int) : (Int × Int × Bool) := (if (v200 != (1 : Int)) then ((0 : Int), (0 : Int), false) else (if (v100 == (1 : Int)) then (letF (alu_Do a0 a1 a3 a5) fun x39 => ((1 : Int), x39.1, (x39.2 == (0 : Int)))) else (if (((v100 == (0 : Int)) || a1) || ((a0 != (1 : Int)) && (a0 != (2 : Int)))) then ((0 : Int), (0 : Int), false) else (letF (alu_Do a0 false a3 a5) fun x64 => (v100, x64.1, (x64.2 == (0 : Int)))))))

def law12_made_J0 (a0 : Int) (a1 : Bool) (a2 : Int) (a3 : Int) (a4 : Int) (a5 : Int) (v100 : Int) : (Int × Int × Bool) := (if (a0 == (13 : Int)) then (law12_made_J1 a0 a1 a2 a3 a4 a5 v100 (1 : Int)) else (law12_made_J1 a0 a1 a2 a3 a4 a5 v100 a4))

def law12_made (a0 : Int) (a1 : Bool) (a2 : Int) (a3 : Int) (a4 : Int) (a5 : Int)  : (Int × Int × Bool) := (if ((a0 == (12 : Int)) && (!a1)) then (a4, a5, (a4 != (0 : Int))) else (if (a0 == (12 : Int)) then (law12_made_J0 a0 a1 a2 a3 a4 a5 a4) else (law12_made_J0 a0 a1 a2 a3 a4 a5 a2)))

theorem law12_made_J1_ok (a0 : Int) (a1 : Bool) (a2 : Int) (a3 : Int) (a4 : Int) (a5 : Int) (v100 : Int) (_h_a0 : IU8 a0) (_h_a2 : IU8 a2) (_h_a3 : IU64 a3) (_h_a4 : IU8 a4) (_h_a5 : IU64 a5)  (v200 : Int) (_hr_v100 : IU8 v100) (_hr_v200 : IU8 v200) : IU8 (law12_made_J1 a0 a1 a2 a3 a4 a5 v100 v200).1 ∧ IU64 (law12_made_J1 a0 a1 a2 a3 a4 a5 v100 v200).2.1 := by
 rw [law12_made_J1.eq_1]
 refine iteR (p := fun r : (Int × Int × Bool) => IU8 r.1 ∧ IU64 r.2.1) (fun hi1001 => ?_) (fun hi1001 => ?_)
 ·
  replace hi1001 : v200 ≠ (1 : Int) := (bNeT hi1001)
  exact (by exact (show IU8 (0 : Int) ∧ IU64 (0 : Int) from ⟨(by omega), (by omega)⟩))
 replace hi1001 : v200 = (1 : Int) := (bNeF hi1001)
 refine iteR (p := fun r : (Int × Int × Bool) => IU8 r.1 ∧ IU64 r.2.1) (fun hi1002 => ?_) (fun hi1002 => ?_)
 ·
  replace hi1002 : v100 = (1 : Int) := (bEqT hi1002)
  refine letR (p := fun r : (Int × Int × Bool) => IU8 r.1 ∧ IU64 r.2.1) fun x39 hx40 => ?_
  have hx41 : IU64 x39.1 ∧ II64 x39.2 := by rw [← hx40]; exact alu_Do_ok a0 a1 a3 a5 (by omega) (by omega) (by omega) 
  exact (by exact (show IU8 (1 : Int) ∧ IU64 x39.1 from ⟨(by omega), (by omega)⟩))
 replace hi1002 : v100 ≠ (1 : Int) := (bEqF hi1002)
 refine iteR (p := fun r : (Int × Int × Bool) => IU8 r.1 ∧ IU64 r.2.1) (fun hi1003 => ?_) (fun hi1003 => ?_)
 ·
  replace hi1003 : ((v100 = (0 : Int)) ∨ (a1 = true)) ∨ ((a0 ≠ (1 : Int)) ∧ (a0 ≠ (2 : Int))) := (orMap (bOrT hi1003) (fun h => (orMap (bOrT h) (fun h => (bEqT h)) (fun h => h))) (fun h => ⟨(bNeT (bAndT h).1), (bNeT (bAndT h).2)⟩))
  exact (by exact (show IU8 (0 : Int) ∧ IU64 (0 : Int) from ⟨(by omega), (by omega)⟩))
 replace hi1003 : ((v100 ≠ (0 : Int)) ∧ (a1 = false)) ∧ ((a0 = (1 : Int)) ∨ (a0 = (2 : Int))) := ⟨⟨(bEqF (bOrF (bOrF hi1003).1).1), (bOrF (bOrF hi1003).1).2⟩, (orMap (bAndF (bOrF hi1003).2) (fun h => (bNeF h)) (fun h => (bNeF h)))⟩
 refine letR (p := fun r : (Int × Int × Bool) => IU8 r.1 ∧ IU64 r.2.1) fun x64 hx65 => ?_
 have hx66 : IU64 x64.1 ∧ II64 x64.2 := by rw [← hx65]; exact alu_Do_ok a0 false a3 a5 (by omega) (by omega) (by omega) 
 exact (by exact (show IU8 v100 ∧ IU64 x64.1 from ⟨(by omega), (by omega)⟩))

theorem law12_made_J0_ok (a0 : Int) (a1 : Bool) (a2 : Int) (a3 : Int) (a4 : Int) (a5 : Int) (h_a0 : IU8 a0) (h_a2 : IU8 a2) (h_a3 : IU64 a3) (h_a4 : IU8 a4) (h_a5 : IU64 a5)  (v100 : Int) (hr_v100 : IU8 v100) : IU8 (law12_made_J0 a0 a1 a2 a3 a4 a5 v100).1 ∧ IU64 (law12_made_J0 a0 a1 a2 a3 a4 a5 v100).2.1 := by
 rw [law12_made_J0.eq_1]
 refine iteR (p := fun r : (Int × Int × Bool) => IU8 r.1 ∧ IU64 r.2.1) (fun hi1004 => ?_) (fun hi1004 => ?_)
 ·
  replace hi1004 : a0 = (13 : Int) := (bEqT hi1004)
  exact law12_made_J1_ok a0 a1 a2 a3 a4 a5 v100 h_a0 h_a2 h_a3 h_a4 h_a5  (1 : Int) hr_v100 (by omega)
 replace hi1004 : a0 ≠ (13 : Int) := (bEqF hi1004)
 exact law12_made_J1_ok a0 a1 a2 a3 a4 a5 v100 h_a0 h_a2 h_a3 h_a4 h_a5  a4 hr_v100 (by omega)

theorem law12_made_ok (a0 : Int) (a1 : Bool) (a2 : Int) (a3 : Int) (a4 : Int) (a5 : Int)  (h_a0 : IU8 a0) (h_a2 : IU8 a2) (h_a3 : IU64 a3) (h_a4 : IU8 a4) (h_a5 : IU64 a5)  : IU8 (law12_made a0 a1 a2 a3 a4 a5).1 ∧ IU64 (law12_made a0 a1 a2 a3 a4 a5).2.1 := by
 rw [law12_made.eq_1]
 refine iteR (p := fun r : (Int × Int × Bool) => IU8 r.1 ∧ IU64 r.2.1) (fun hi1005 => ?_) (fun hi1005 => ?_)
 ·
  replace hi1005 : (a0 = (12 : Int)) ∧ (a1 = false) := ⟨(bEqT (bAndT hi1005).1), (bNotT (bAndT hi1005).2)⟩
  exact (by exact (show IU8 a4 ∧ IU64 a5 from ⟨(by omega), (by omega)⟩))
 replace hi1005 : (a0 ≠ (12 : Int)) ∨ (a1 = true) := (orMap (bAndF hi1005) (fun h => (bEqF h)) (fun h => (bNotF h)))
 refine iteR (p := fun r : (Int × Int × Bool) => IU8 r.1 ∧ IU64 r.2.1) (fun hi1006 => ?_) (fun hi1006 => ?_)
 ·
  replace hi1006 : a0 = (12 : Int) := (bEqT hi1006)
  exact law12_made_J0_ok a0 a1 a2 a3 a4 a5 h_a0 h_a2 h_a3 h_a4 h_a5  a4 (by omega)
 replace hi1006 : a0 ≠ (12 : Int) := (bEqF hi1006)
 exact law12_made_J0_ok a0 a1 a2 a3 a4 a5 h_a0 h_a2 h_a3 h_a4 h_a5  a2 (by omega)

set_option maxRecDepth 100000 in
set_option maxHeartbeats 4000000 in
theorem law12_made_any (a0 : Int) (a1 : Bool) (a2 : Int) (a3 : Int) (a4 : Int) (a5 : Int)   (w : World)  (_h_a0 : IU8 a0) (_h_a2 : IU8 a2) (_h_a3 : IU64 a3) (_h_a4 : IU8 a4) (_h_a5 : IU64 a5)  : Calls Try.prog 48 #[.int .u8 a0, .bool a1, .int .u8 a2, .int .u64 a3, .int .u8 a4, .int .u64 a5] w (RetV w (.tuple #[.int .u8 (law12_made a0 a1 a2 a3 a4 a5).1, .int .u64 (law12_made a0 a1 a2 a3 a4 a5).2.1, .bool (law12_made a0 a1 a2 a3 a4 a5).2.2])) := by
 have hs := law12_made.eq_1 a0 a1 a2 a3 a4 a5
 refine calls_of_CW Try.func48 rfl (n := 73) Try.ntmps48 (by kernel_rfl) [0, 1, 2, 3, 4, 5] (F := [(0, .int .u8 a0), (1, .bool a1), (2, .int .u8 a2), (3, .int .u64 a3), (4, .int .u8 a4), (5, .int .u64 a5)]) (by kernel_rfl) ?_
 refine CW.seq fun K1 hK1 => ?_
 refine CW.region ?_
 refine WR.batch 3 [(0, .int .u8 a0), (1, .bool a1), (2, .int .u8 a2), (3, .int .u64 a3), (4, .int .u8 a4), (5, .int .u64 a5)] (by kernel_rfl) ?_
 refine WR.fin (by kernel_rfl) ?_
 refine go hK1 ?_
 refine CW.seq fun K2 hK2 => ?_
 refine CW.seq fun K3 hK3 => ?_
 refine CW.region ?_
 refine WR.batch 3 [(0, .int .u8 a0), (1, .bool a1), (2, .int .u8 a2), (3, .int .u64 a3), (4, .int .u8 a4), (5, .int .u64 a5), (21, .bool (a0 == (12 : Int)))] (by kernel_rfl) ?_
 refine WR.batch 3 [(0, .int .u8 a0), (1, .bool a1), (2, .int .u8 a2), (3, .int .u64 a3), (4, .int .u8 a4), (5, .int .u64 a5), (24, .bool ((a0 == (12 : Int)) && (!a1)))] (by generalize (a0 == (12 : Int)) = b; cases b <;> kernel_rfl) ?_
 refine WR.fin (by kernel_rfl) ?_
 refine go hK3 ?_
 refine CW.cond (((a0 == (12 : Int)) && (!a1))) (by kernel_rfl) (fun ht4 => ?_) (fun ht4 => ?_)
 ·
  have hs5 := ifT ht4 hs
  replace ht4 : (a0 = (12 : Int)) ∧ (a1 = false) := ⟨(bEqT (bAndT ht4).1), (bNotT (bAndT ht4).2)⟩
  refine CW.seq fun K6 hK6 => ?_
  refine CW.region ?_
  refine WR.batch 7 [(12, .int .u8 a4), (13, .int .u64 a5), (14, .bool (a4 != (0 : Int)))] (by kernel_rfl) ?_
  refine WR.fin (by kernel_rfl) ?_
  refine go hK6 ?_
  refine CW.ret ?_
  exact retV (.tuple #[.int .u8 a4, .int .u64 a5, .bool (a4 != (0 : Int))]) (by kernel_rfl) (⟨(Chg.refl _ _), (congrArg (fun r : (Int × Int × Bool) => (.tuple #[.int .u8 r.1, .int .u64 r.2.1, .bool r.2.2] : Value)) hs5).symm⟩)
 have hs7 := ifF ht4 hs
 replace ht4 : (a0 ≠ (12 : Int)) ∨ (a1 = true) := (orMap (bAndF ht4) (fun h => (bEqF h)) (fun h => (bNotF h)))
 refine CW.skip ?_
 refine go hK2 ?_
 refine CW.seq fun K8 hK8 => ?_
 refine CW.seq fun K9 hK9 => ?_
 refine CW.region ?_
 refine WR.batch 2 [(0, .int .u8 a0), (1, .bool a1), (2, .int .u8 a2), (3, .int .u64 a3), (4, .int .u8 a4), (5, .int .u64 a5), (30, .bool (a0 == (12 : Int)))] (by kernel_rfl) ?_
 refine WR.fin (by kernel_rfl) ?_
 refine go hK9 ?_
 refine CW.join hK8 (fun F' w' => ∃ (v100 : Int), F' = [(0, .int .u8 a0), (1, .bool a1), (2, .int .u8 v100), (3, .int .u64 a3), (4, .int .u8 a4), (5, .int .u64 a5)] ∧ Chg [] w w' ∧ (IU8 v100) ∧ (law12_made a0 a1 a2 a3 a4 a5) = law12_made_J0 a0 a1 a2 a3 a4 a5 v100) ?_ ?_
 ·
  refine CW.cond ((a0 == (12 : Int))) (by kernel_rfl) (fun ht13 => ?_) (fun ht13 => ?_)
  ·
   have hs14 := ifT ht13 hs7
   replace ht13 : a0 = (12 : Int) := (bEqT ht13)
   refine CW.region ?_
   refine WR.batch 2 [(0, .int .u8 a0), (1, .bool a1), (2, .int .u8 a4), (3, .int .u64 a3), (4, .int .u8 a4), (5, .int .u64 a5)] (by kernel_rfl) ?_
   refine WR.fin (by kernel_rfl) ?_
   exact fun _ ha => ⟨_, ha.keep [0, 1, 2, 3, 4, 5] (F' := [(0, .int .u8 a0), (1, .bool a1), (2, .int .u8 a4), (3, .int .u64 a3), (4, .int .u8 a4), (5, .int .u64 a5)]) (by kernel_rfl), a4, rfl, (Chg.refl _ _), (by omega), hs14⟩
  have hs15 := ifF ht13 hs7
  replace ht13 : a0 ≠ (12 : Int) := (bEqF ht13)
  refine CW.skip ?_
  exact fun _ ha => ⟨_, ha.keep [0, 1, 2, 3, 4, 5] (F' := [(0, .int .u8 a0), (1, .bool a1), (2, .int .u8 a2), (3, .int .u64 a3), (4, .int .u8 a4), (5, .int .u64 a5)]) (by kernel_rfl), a2, rfl, (Chg.refl _ _), (by omega), hs15⟩
 rintro _ w12 ⟨v100, rfl, hC10, hr_v100, hsj11⟩
 have hz16 := hC10.size
 have hs17 := hsj11.trans (law12_made_J0.eq_1 _ _ _ _ _ _ _)
 refine CW.seq fun K18 hK18 => ?_
 refine CW.seq fun K19 hK19 => ?_
 refine CW.region ?_
 refine WR.batch 2 [(0, .int .u8 a0), (1, .bool a1), (2, .int .u8 v100), (3, .int .u64 a3), (4, .int .u8 a4), (5, .int .u64 a5), (33, .bool (a0 == (13 : Int)))] (by kernel_rfl) ?_
 refine WR.fin (by kernel_rfl) ?_
 refine go hK19 ?_
 refine CW.join hK18 (fun F' w' => ∃ (v200 : Int), F' = [(0, .int .u8 a0), (1, .bool a1), (2, .int .u8 v100), (3, .int .u64 a3), (4, .int .u8 v200), (5, .int .u64 a5)] ∧ Chg [] w w' ∧ (IU8 v200) ∧ (law12_made a0 a1 a2 a3 a4 a5) = law12_made_J1 a0 a1 a2 a3 a4 a5 v100 v200) ?_ ?_
 ·
  refine CW.cond ((a0 == (13 : Int))) (by kernel_rfl) (fun ht23 => ?_) (fun ht23 => ?_)
  ·
   have hs24 := ifT ht23 hs17
   replace ht23 : a0 = (13 : Int) := (bEqT ht23)
   refine CW.region ?_
   refine WR.batch 1 [(0, .int .u8 a0), (1, .bool a1), (2, .int .u8 v100), (3, .int .u64 a3), (4, .int .u8 1), (5, .int .u64 a5)] (by kernel_rfl) ?_
   refine WR.fin (by kernel_rfl) ?_
   exact fun _ ha => ⟨_, ha.keep [0, 1, 2, 3, 4, 5] (F' := [(0, .int .u8 a0), (1, .bool a1), (2, .int .u8 v100), (3, .int .u64 a3), (4, .int .u8 1), (5, .int .u64 a5)]) (by kernel_rfl), (1 : Int), rfl, hC10, (by omega), hs24⟩
  have hs25 := ifF ht23 hs17
  replace ht23 : a0 ≠ (13 : Int) := (bEqF ht23)
  refine CW.skip ?_
  exact fun _ ha => ⟨_, ha.keep [0, 1, 2, 3, 4, 5] (F' := [(0, .int .u8 a0), (1, .bool a1), (2, .int .u8 v100), (3, .int .u64 a3), (4, .int .u8 a4), (5, .int .u64 a5)]) (by kernel_rfl), a4, rfl, hC10, (by omega), hs25⟩
 rintro _ w22 ⟨v200, rfl, hC20, hr_v200, hsj21⟩
 have hz26 := hC20.size
 have hs27 := hsj21.trans (law12_made_J1.eq_1 _ _ _ _ _ _ _ _)
 refine CW.seq fun K28 hK28 => ?_
 refine CW.seq fun K29 hK29 => ?_
 refine CW.region ?_
 refine WR.batch 2 [(0, .int .u8 a0), (1, .bool a1), (2, .int .u8 v100), (3, .int .u64 a3), (5, .int .u64 a5), (35, .bool (v200 != (1 : Int)))] (by kernel_rfl) ?_
 refine WR.fin (by kernel_rfl) ?_
 refine go hK29 ?_
 refine CW.cond ((v200 != (1 : Int))) (by kernel_rfl) (fun ht30 => ?_) (fun ht30 => ?_)
 ·
  have hs31 := ifT ht30 hs27
  replace ht30 : v200 ≠ (1 : Int) := (bNeT ht30)
  refine CW.seq fun K32 hK32 => ?_
  refine CW.region ?_
  refine WR.batch 3 [(12, .int .u8 0), (13, .int .u64 0), (14, .bool false)] (by kernel_rfl) ?_
  refine WR.fin (by kernel_rfl) ?_
  refine go hK32 ?_
  refine CW.ret ?_
  exact retV (.tuple #[.int .u8 0, .int .u64 0, .bool false]) (by kernel_rfl) (⟨hC20, (congrArg (fun r : (Int × Int × Bool) => (.tuple #[.int .u8 r.1, .int .u64 r.2.1, .bool r.2.2] : Value)) hs31).symm⟩)
 have hs33 := ifF ht30 hs27
 replace ht30 : v200 = (1 : Int) := (bNeF ht30)
 refine CW.skip ?_
 refine go hK28 ?_
 refine CW.seq fun K34 hK34 => ?_
 refine CW.seq fun K35 hK35 => ?_
 refine CW.region ?_
 refine WR.batch 2 [(0, .int .u8 a0), (1, .bool a1), (2, .int .u8 v100), (3, .int .u64 a3), (5, .int .u64 a5), (37, .bool (v100 == (1 : Int)))] (by kernel_rfl) ?_
 refine WR.fin (by kernel_rfl) ?_
 refine go hK35 ?_
 refine CW.cond ((v100 == (1 : Int))) (by kernel_rfl) (fun ht36 => ?_) (fun ht36 => ?_)
 ·
  have hs37 := ifT ht36 hs33
  replace ht36 : v100 = (1 : Int) := (bEqT ht36)
  refine CW.seq fun K38 hK38 => ?_
  refine CW.region ?_
  refine WR.batch 4 [(39, .int .u8 a0), (40, .bool a1), (41, .int .u64 a3), (42, .int .u64 a5)] (by kernel_rfl) ?_
  obtain ⟨x39, hx40⟩ : ∃ x, alu_Do a0 a1 a3 a5 = x := ⟨_, rfl⟩
  have hs42 := letS hx40 hs37
  have hx41 : IU64 x39.1 ∧ II64 x39.2 := by rw [← hx40]; exact alu_Do_ok a0 a1 a3 a5 (by omega) (by omega) (by omega) 
  refine WR.call (dst := some 43) (by kernel_rfl) (retE (g := (fun r : (Int × Int) => (.tuple #[.int .u64 r.1, .int .i64 r.2] : Value))) hx40 (alu_Do_any a0 a1 a3 a5 w22  (by omega) (by omega) (by omega) )) ?_
  rintro _ w43 hc44 rfl
  have hz46 := hc44.size
  have hC45 := hC20.pure hc44
  refine WR.batch 5 [(15, .int .u64 x39.1), (16, .int .i64 x39.2)] (by kernel_rfl) ?_
  refine WR.fin (by kernel_rfl) ?_
  refine go hK38 ?_
  refine CW.seq fun K47 hK47 => ?_
  refine CW.region ?_
  refine WR.batch 6 [(12, .int .u8 1), (13, .int .u64 x39.1), (14, .bool (x39.2 == (0 : Int)))] (by kernel_rfl) ?_
  refine WR.fin (by kernel_rfl) ?_
  refine go hK47 ?_
  refine CW.ret ?_
  exact retV (.tuple #[.int .u8 1, .int .u64 x39.1, .bool (x39.2 == (0 : Int))]) (by kernel_rfl) (⟨hC45, (congrArg (fun r : (Int × Int × Bool) => (.tuple #[.int .u8 r.1, .int .u64 r.2.1, .bool r.2.2] : Value)) hs42).symm⟩)
 have hs48 := ifF ht36 hs33
 replace ht36 : v100 ≠ (1 : Int) := (bEqF ht36)
 refine CW.skip ?_
 refine go hK34 ?_
 refine CW.seq fun K49 hK49 => ?_
 refine CW.seq fun K50 hK50 => ?_
 refine CW.region ?_
 refine WR.batch 3 [(0, .int .u8 a0), (1, .bool a1), (2, .int .u8 v100), (3, .int .u64 a3), (5, .int .u64 a5), (51, .bool (v100 == (0 : Int)))] (by kernel_rfl) ?_
 refine WR.batch 2 [(0, .int .u8 a0), (2, .int .u8 v100), (3, .int .u64 a3), (5, .int .u64 a5), (53, .bool ((v100 == (0 : Int)) || a1))] (by generalize (v100 == (0 : Int)) = b; cases b <;> kernel_rfl) ?_
 refine WR.batch 1 [(0, .int .u8 a0), (2, .int .u8 v100), (3, .int .u64 a3), (5, .int .u64 a5), (54, .bool ((v100 == (0 : Int)) || a1))] (by kernel_rfl) ?_
 refine WR.mergeW 13 [(0, .int .u8 a0), (2, .int .u8 v100), (3, .int .u64 a3), (5, .int .u64 a5), (61, .bool (((v100 == (0 : Int)) || a1) || ((a0 != (1 : Int)) && (a0 != (2 : Int)))))] (fun w' => Chg [] w22 w') (fun Q' => ?_) ?_
 ·
  cases hg51 : ((v100 == (0 : Int)) || a1)
  ·
   have hk53 := hg51
   replace hg51 : (v100 ≠ (0 : Int)) ∧ (a1 = false) := ⟨(bEqF (bOrF hg51).1), (bOrF hg51).2⟩
   intro hM52
   refine WR.batch 3 [(0, .int .u8 a0), (2, .int .u8 v100), (3, .int .u64 a3), (5, .int .u64 a5), (54, .bool false), (57, .bool (a0 != (1 : Int)))] (by kernel_rfl) ?_
   refine WR.batch 3 [(0, .int .u8 a0), (2, .int .u8 v100), (3, .int .u64 a3), (5, .int .u64 a5), (54, .bool false), (60, .bool ((a0 != (1 : Int)) && (a0 != (2 : Int))))] (by generalize (a0 != (1 : Int)) = b; cases b <;> kernel_rfl) ?_
   refine WR.batch 1 [(0, .int .u8 a0), (2, .int .u8 v100), (3, .int .u64 a3), (5, .int .u64 a5), (61, .bool ((a0 != (1 : Int)) && (a0 != (2 : Int))))] (by kernel_rfl) ?_
   exact WR.keep [0, 2, 3, 5, 61] (by kernel_rfl) (hM52 _ (Chg.refl [] w22))
  ·
   have hk54 := hg51
   replace hg51 : (v100 = (0 : Int)) ∨ (a1 = true) := (orMap (bOrT hg51) (fun h => (bEqT h)) (fun h => h))
   intro hM52
   refine WR.batch 7 [(0, .int .u8 a0), (2, .int .u8 v100), (3, .int .u64 a3), (5, .int .u64 a5), (61, .bool true)] (by kernel_rfl) ?_
   exact WR.keep [0, 2, 3, 5, 61] (by kernel_rfl) (hM52 _ (Chg.refl [] w22))
 intro w55 hc56
 have hz58 := hc56.size
 have hC57 := hC20.pure hc56
 refine WR.fin (by kernel_rfl) ?_
 refine go hK50 ?_
 refine CW.cond ((((v100 == (0 : Int)) || a1) || ((a0 != (1 : Int)) && (a0 != (2 : Int))))) (by kernel_rfl) (fun ht59 => ?_) (fun ht59 => ?_)
 ·
  have hs60 := ifT ht59 hs48
  replace ht59 : ((v100 = (0 : Int)) ∨ (a1 = true)) ∨ ((a0 ≠ (1 : Int)) ∧ (a0 ≠ (2 : Int))) := (orMap (bOrT ht59) (fun h => (orMap (bOrT h) (fun h => (bEqT h)) (fun h => h))) (fun h => ⟨(bNeT (bAndT h).1), (bNeT (bAndT h).2)⟩))
  refine CW.seq fun K61 hK61 => ?_
  refine CW.region ?_
  refine WR.batch 3 [(12, .int .u8 0), (13, .int .u64 0), (14, .bool false)] (by kernel_rfl) ?_
  refine WR.fin (by kernel_rfl) ?_
  refine go hK61 ?_
  refine CW.ret ?_
  exact retV (.tuple #[.int .u8 0, .int .u64 0, .bool false]) (by kernel_rfl) (⟨hC57, (congrArg (fun r : (Int × Int × Bool) => (.tuple #[.int .u8 r.1, .int .u64 r.2.1, .bool r.2.2] : Value)) hs60).symm⟩)
 have hs62 := ifF ht59 hs48
 replace ht59 : ((v100 ≠ (0 : Int)) ∧ (a1 = false)) ∧ ((a0 = (1 : Int)) ∨ (a0 = (2 : Int))) := ⟨⟨(bEqF (bOrF (bOrF ht59).1).1), (bOrF (bOrF ht59).1).2⟩, (orMap (bAndF (bOrF ht59).2) (fun h => (bNeF h)) (fun h => (bNeF h)))⟩
 refine CW.skip ?_
 refine go hK49 ?_
 refine CW.seq fun K63 hK63 => ?_
 refine CW.region ?_
 refine WR.batch 3 [(2, .int .u8 v100), (63, .int .u8 a0), (64, .int .u64 a3), (65, .int .u64 a5)] (by kernel_rfl) ?_
 obtain ⟨x64, hx65⟩ : ∃ x, alu_Do a0 false a3 a5 = x := ⟨_, rfl⟩
 have hs67 := letS hx65 hs62
 have hx66 : IU64 x64.1 ∧ II64 x64.2 := by rw [← hx65]; exact alu_Do_ok a0 false a3 a5 (by omega) (by omega) (by omega) 
 refine WR.call (dst := some 66) (by kernel_rfl) (retE (g := (fun r : (Int × Int) => (.tuple #[.int .u64 r.1, .int .i64 r.2] : Value))) hx65 (alu_Do_any a0 false a3 a5 w55  (by omega) (by omega) (by omega) )) ?_
 rintro _ w68 hc69 rfl
 have hz71 := hc69.size
 have hC70 := hC57.pure hc69
 refine WR.batch 5 [(2, .int .u8 v100), (17, .int .u64 x64.1), (18, .int .i64 x64.2)] (by kernel_rfl) ?_
 refine WR.fin (by kernel_rfl) ?_
 refine go hK63 ?_
 refine CW.seq fun K72 hK72 => ?_
 refine CW.region ?_
 refine WR.batch 7 [(12, .int .u8 v100), (13, .int .u64 x64.1), (14, .bool (x64.2 == (0 : Int)))] (by kernel_rfl) ?_
 refine WR.fin (by kernel_rfl) ?_
 refine go hK72 ?_
 refine CW.ret ?_
 exact retV (.tuple #[.int .u8 v100, .int .u64 x64.1, .bool (x64.2 == (0 : Int))]) (by kernel_rfl) (⟨hC70, (congrArg (fun r : (Int × Int × Bool) => (.tuple #[.int .u8 r.1, .int .u64 r.2.1, .bool r.2.2] : Value)) hs67).symm⟩)

def law12_KindSound (a0 : Int) (a1 : Bool) (a2 : TKnown) (a3 : Int) (a4 : TKnown) (a5 : Int) (a6 : Int) (a7 : Int) (a8 : Int)  : Bool := (letF (law12_awake) fun x24 => (if (!x24) then false else (if ((((((decide (a8 < (0 : Int))) || (decide (a8 > (65535 : Int)))) || (!(kind_Holds a2 a6 a3 a8))) || (!(kind_Holds a4 a7 a5 a8))) || (decide (a6 > (3 : Int)))) || (decide (a7 > (3 : Int)))) then true else (letF (kind_Do a0 a1 a2 a4) fun x70 => (if (x70.2 != (0 : Int)) then ((x70.1.Kind == (0 : Int)) && ((x70.1.In.Lo == (0 : Int)) && (x70.1.In.Hi == (0 : Int)))) else (letF (law12_made a0 a1 a6 a3 a7 a5) fun x100 => (x100.2.2 && (kind_Holds x70.1 x100.1 x100.2.1 a8))))))))

set_option maxRecDepth 100000 in
set_option maxHeartbeats 4000000 in
theorem law12_KindSound_any (a0 : Int) (a1 : Bool) (a2 : TKnown) (a3 : Int) (a4 : TKnown) (a5 : Int) (a6 : Int) (a7 : Int) (a8 : Int)   (w : World)  (_h_a0 : IU8 a0) (_h_a2 : IU8 a2.Kind ∧ IU64 a2.In.Lo ∧ IU64 a2.In.Hi) (_h_a3 : IU64 a3) (_h_a4 : IU8 a4.Kind ∧ IU64 a4.In.Lo ∧ IU64 a4.In.Hi) (_h_a5 : IU64 a5) (_h_a6 : IU8 a6) (_h_a7 : IU8 a7) (_h_a8 : II64 a8)  : Calls Try.prog 10 #[.int .u8 a0, .bool a1, .agg #[.int .u8 a2.Kind, .int .u64 a2.In.Lo, .int .u64 a2.In.Hi], .int .u64 a3, .agg #[.int .u8 a4.Kind, .int .u64 a4.In.Lo, .int .u64 a4.In.Hi], .int .u64 a5, .int .u8 a6, .int .u8 a7, .int .i64 a8] w (RetV w (.bool (law12_KindSound a0 a1 a2 a3 a4 a5 a6 a7 a8))) := by
 have hs := law12_KindSound.eq_1 a0 a1 a2 a3 a4 a5 a6 a7 a8
 refine calls_of_CW Try.func10 rfl (n := 88) Try.ntmps10 (by kernel_rfl) [0, 1, 2, 3, 4, 5, 6, 7, 8] (F := [(0, .int .u8 a0), (1, .bool a1), (2, .agg #[.int .u8 a2.Kind, .int .u64 a2.In.Lo, .int .u64 a2.In.Hi]), (3, .int .u64 a3), (4, .agg #[.int .u8 a4.Kind, .int .u64 a4.In.Lo, .int .u64 a4.In.Hi]), (5, .int .u64 a5), (6, .int .u8 a6), (7, .int .u8 a7), (8, .int .i64 a8)]) (by kernel_rfl) ?_
 refine CW.seq fun K1 hK1 => ?_
 refine CW.region ?_
 refine WR.box (dst := some 11) (e := 56) (v := .agg #[.int .u8 a2.Kind, .int .u64 a2.In.Lo, .int .u64 a2.In.Hi]) (by kernel_rfl) #[.int .u8 a2.Kind, .int .u64 a2.In.Lo, .int .u64 a2.In.Hi] (by kernel_rfl) ?_
 intro g2 w3 hN4
 have hf6 : w.heap.size ≤ g2 := hN4.fresh
 have hfr8 := hN4.fresh
 have hc7 := hN4.chg
 have hz10 := hc7.size
 have hC9 := (Chg.refl [] w).pure hc7
 have hb5 := hN4.blk
 have hg11 := hb5.lt
 refine WR.box (dst := some 13) (e := 56) (v := .agg #[.int .u8 a4.Kind, .int .u64 a4.In.Lo, .int .u64 a4.In.Hi]) (by kernel_rfl) #[.int .u8 a4.Kind, .int .u64 a4.In.Lo, .int .u64 a4.In.Hi] (by kernel_rfl) ?_
 intro g12 w13 hN14
 have hf16 : w.heap.size ≤ g12 := Nat.le_trans hC9.size hN14.fresh
 have hfr18 := hN14.fresh
 have hc17 := hN14.chg
 have hz20 := hc17.size
 have hC19 := hC9.pure hc17
 have hb15 := hN14.blk
 have hg21 := hb15.lt
 refine WR.batch 1 [(0, .int .u8 a0), (1, .bool a1), (3, .int .u64 a3), (5, .int .u64 a5), (6, .int .u8 a6), (7, .int .u8 a7), (8, .int .i64 a8), (11, pt g2 0), (13, pt g12 0)] (by kernel_rfl) ?_
 refine WR.fin (by kernel_rfl) ?_
 refine go hK1 ?_
 refine CW.seq fun K22 hK22 => ?_
 refine CW.seq fun K23 hK23 => ?_
 refine CW.region ?_
 obtain ⟨x24, hx25⟩ : ∃ x, law12_awake = x := ⟨_, rfl⟩
 have hs26 := letS hx25 hs
 refine WR.call (dst := some 24) (by kernel_rfl) (retE (g := (fun r : Bool => (.bool r : Value))) hx25 (law12_awake_any  w13  )) ?_
 rintro _ w27 hc28 rfl
 have hz30 := hc28.size
 have hC29 := hC19.pure hc28
 refine WR.batch 1 [(0, .int .u8 a0), (1, .bool a1), (3, .int .u64 a3), (5, .int .u64 a5), (6, .int .u8 a6), (7, .int .u8 a7), (8, .int .i64 a8), (11, pt g2 0), (13, pt g12 0), (25, .bool (!x24))] (by kernel_rfl) ?_
 refine WR.fin (by kernel_rfl) ?_
 refine go hK23 ?_
 refine CW.cond ((!x24)) (by kernel_rfl) (fun ht31 => ?_) (fun ht31 => ?_)
 ·
  have hs32 := ifT ht31 hs26
  replace ht31 : x24 = false := (bNotT ht31)
  refine CW.seq fun K33 hK33 => ?_
  refine CW.region ?_
  refine WR.batch 1 [(18, .bool false)] (by kernel_rfl) ?_
  refine WR.fin (by kernel_rfl) ?_
  refine go hK33 ?_
  refine CW.ret ?_
  exact retV (.bool false) (by kernel_rfl) (⟨hC29, (congrArg (fun r : Bool => (.bool r : Value)) hs32).symm⟩)
 have hs34 := ifF ht31 hs26
 replace ht31 : x24 = true := (bNotF ht31)
 refine CW.skip ?_
 refine go hK22 ?_
 refine CW.seq fun K35 hK35 => ?_
 refine CW.seq fun K36 hK36 => ?_
 refine CW.region ?_
 refine WR.batch 3 [(0, .int .u8 a0), (1, .bool a1), (3, .int .u64 a3), (5, .int .u64 a5), (6, .int .u8 a6), (7, .int .u8 a7), (8, .int .i64 a8), (11, pt g2 0), (13, pt g12 0), (28, .bool (decide (a8 < (0 : Int))))] (by kernel_rfl) ?_
 refine WR.batch 3 [(0, .int .u8 a0), (1, .bool a1), (3, .int .u64 a3), (5, .int .u64 a5), (6, .int .u8 a6), (7, .int .u8 a7), (8, .int .i64 a8), (11, pt g2 0), (13, pt g12 0), (31, .bool ((decide (a8 < (0 : Int))) || (decide (a8 > (65535 : Int)))))] (by generalize decide (a8 < (0 : Int)) = b; cases b <;> kernel_rfl) ?_
 refine WR.batch 1 [(0, .int .u8 a0), (1, .bool a1), (3, .int .u64 a3), (5, .int .u64 a5), (6, .int .u8 a6), (7, .int .u8 a7), (8, .int .i64 a8), (11, pt g2 0), (13, pt g12 0), (32, .bool ((decide (a8 < (0 : Int))) || (decide (a8 > (65535 : Int)))))] (by kernel_rfl) ?_
 refine WR.mergeW 14 [(0, .int .u8 a0), (1, .bool a1), (3, .int .u64 a3), (5, .int .u64 a5), (6, .int .u8 a6), (7, .int .u8 a7), (8, .int .i64 a8), (11, pt g2 0), (13, pt g12 0), (39, .bool (((decide (a8 < (0 : Int))) || (decide (a8 > (65535 : Int)))) || (!(kind_Holds a2 a6 a3 a8))))] (fun w' => Chg [] w27 w') (fun Q' => ?_) ?_
 ·
  cases hg37 : ((decide (a8 < (0 : Int))) || (decide (a8 > (65535 : Int))))
  ·
   have hk39 := hg37
   replace hg37 : (¬ (a8 < (0 : Int))) ∧ (¬ (a8 > (65535 : Int))) := ⟨(of_decide_eq_false (bOrF hg37).1), (of_decide_eq_false (bOrF hg37).2)⟩
   intro hM38
   have hb40 := (hb5.pure hc17).pure hc28
   refine WR.load (dst := some 33) (t := 56) (o := 0) hb40 (by kernel_rfl) (.agg #[.int .u8 a2.Kind, .int .u64 a2.In.Lo, .int .u64 a2.In.Hi]) (by kernel_rfl) ?_
   refine WR.batch 3 [(0, .int .u8 a0), (1, .bool a1), (3, .int .u64 a3), (5, .int .u64 a5), (6, .int .u8 a6), (7, .int .u8 a7), (8, .int .i64 a8), (11, pt g2 0), (13, pt g12 0), (32, .bool false), (33, .agg #[.int .u8 a2.Kind, .int .u64 a2.In.Lo, .int .u64 a2.In.Hi]), (34, .int .u8 a6), (35, .int .u64 a3), (36, .int .i64 a8)] (by kernel_rfl) ?_
   refine WR.call (dst := some 37) (by kernel_rfl) (kind_Holds_any a2 a6 a3 a8 w27  ⟨(by omega), (by omega), (by omega)⟩ (by omega) (by omega) (by omega) ) ?_
   rintro _ w41 hc42 rfl
   have hz44 := hc42.size
   have hC43 := hC29.pure hc42
   refine WR.batch 2 [(0, .int .u8 a0), (1, .bool a1), (3, .int .u64 a3), (5, .int .u64 a5), (6, .int .u8 a6), (7, .int .u8 a7), (8, .int .i64 a8), (11, pt g2 0), (13, pt g12 0), (39, .bool (!(kind_Holds a2 a6 a3 a8)))] (by kernel_rfl) ?_
   exact WR.keep [0, 1, 3, 5, 6, 7, 8, 11, 13, 39] (by kernel_rfl) (hM38 _ ((Chg.refl [] w27).pure hc42))
  ·
   have hk45 := hg37
   replace hg37 : (a8 < (0 : Int)) ∨ (a8 > (65535 : Int)) := (orMap (bOrT hg37) (fun h => (of_decide_eq_true h)) (fun h => (of_decide_eq_true h)))
   intro hM38
   refine WR.batch 7 [(0, .int .u8 a0), (1, .bool a1), (3, .int .u64 a3), (5, .int .u64 a5), (6, .int .u8 a6), (7, .int .u8 a7), (8, .int .i64 a8), (11, pt g2 0), (13, pt g12 0), (39, .bool true)] (by kernel_rfl) ?_
   exact WR.keep [0, 1, 3, 5, 6, 7, 8, 11, 13, 39] (by kernel_rfl) (hM38 _ (Chg.refl [] w27))
 intro w46 hc47
 have hz49 := hc47.size
 have hC48 := hC29.pure hc47
 refine WR.batch 1 [(0, .int .u8 a0), (1, .bool a1), (3, .int .u64 a3), (5, .int .u64 a5), (6, .int .u8 a6), (7, .int .u8 a7), (8, .int .i64 a8), (11, pt g2 0), (13, pt g12 0), (40, .bool (((decide (a8 < (0 : Int))) || (decide (a8 > (65535 : Int)))) || (!(kind_Holds a2 a6 a3 a8))))] (by kernel_rfl) ?_
 refine WR.mergeW 22 [(0, .int .u8 a0), (1, .bool a1), (3, .int .u64 a3), (5, .int .u64 a5), (6, .int .u8 a6), (7, .int .u8 a7), (8, .int .i64 a8), (11, pt g2 0), (13, pt g12 0), (47, .bool ((((decide (a8 < (0 : Int))) || (decide (a8 > (65535 : Int)))) || (!(kind_Holds a2 a6 a3 a8))) || (!(kind_Holds a4 a7 a5 a8))))] (fun w' => Chg [] w46 w') (fun Q' => ?_) ?_
 ·
  cases hg50 : (((decide (a8 < (0 : Int))) || (decide (a8 > (65535 : Int)))) || (!(kind_Holds a2 a6 a3 a8)))
  ·
   have hk52 := hg50
   replace hg50 : ((¬ (a8 < (0 : Int))) ∧ (¬ (a8 > (65535 : Int)))) ∧ ((kind_Holds a2 a6 a3 a8) = true) := ⟨⟨(of_decide_eq_false (bOrF (bOrF hg50).1).1), (of_decide_eq_false (bOrF (bOrF hg50).1).2)⟩, (bNotF (bOrF hg50).2)⟩
   intro hM51
   have hb53 := (hb15.pure hc28).pure hc47
   refine WR.load (dst := some 41) (t := 56) (o := 0) hb53 (by kernel_rfl) (.agg #[.int .u8 a4.Kind, .int .u64 a4.In.Lo, .int .u64 a4.In.Hi]) (by kernel_rfl) ?_
   refine WR.batch 3 [(0, .int .u8 a0), (1, .bool a1), (3, .int .u64 a3), (5, .int .u64 a5), (6, .int .u8 a6), (7, .int .u8 a7), (8, .int .i64 a8), (11, pt g2 0), (13, pt g12 0), (40, .bool false), (41, .agg #[.int .u8 a4.Kind, .int .u64 a4.In.Lo, .int .u64 a4.In.Hi]), (42, .int .u8 a7), (43, .int .u64 a5), (44, .int .i64 a8)] (by kernel_rfl) ?_
   refine WR.call (dst := some 45) (by kernel_rfl) (kind_Holds_any a4 a7 a5 a8 w46  ⟨(by omega), (by omega), (by omega)⟩ (by omega) (by omega) (by omega) ) ?_
   rintro _ w54 hc55 rfl
   have hz57 := hc55.size
   have hC56 := hC48.pure hc55
   refine WR.batch 2 [(0, .int .u8 a0), (1, .bool a1), (3, .int .u64 a3), (5, .int .u64 a5), (6, .int .u8 a6), (7, .int .u8 a7), (8, .int .i64 a8), (11, pt g2 0), (13, pt g12 0), (47, .bool (!(kind_Holds a4 a7 a5 a8)))] (by kernel_rfl) ?_
   exact WR.keep [0, 1, 3, 5, 6, 7, 8, 11, 13, 47] (by kernel_rfl) (hM51 _ ((Chg.refl [] w46).pure hc55))
  ·
   have hk58 := hg50
   replace hg50 : ((a8 < (0 : Int)) ∨ (a8 > (65535 : Int))) ∨ ((kind_Holds a2 a6 a3 a8) = false) := (orMap (bOrT hg50) (fun h => (orMap (bOrT h) (fun h => (of_decide_eq_true h)) (fun h => (of_decide_eq_true h)))) (fun h => (bNotT h)))
   intro hM51
   refine WR.batch 7 [(0, .int .u8 a0), (1, .bool a1), (3, .int .u64 a3), (5, .int .u64 a5), (6, .int .u8 a6), (7, .int .u8 a7), (8, .int .i64 a8), (11, pt g2 0), (13, pt g12 0), (47, .bool true)] (by kernel_rfl) ?_
   exact WR.keep [0, 1, 3, 5, 6, 7, 8, 11, 13, 47] (by kernel_rfl) (hM51 _ (Chg.refl [] w46))
 intro w59 hc60
 have hz62 := hc60.size
 have hC61 := hC48.pure hc60
 refine WR.batch 1 [(0, .int .u8 a0), (1, .bool a1), (3, .int .u64 a3), (5, .int .u64 a5), (6, .int .u8 a6), (7, .int .u8 a7), (8, .int .i64 a8), (11, pt g2 0), (13, pt g12 0), (48, .bool ((((decide (a8 < (0 : Int))) || (decide (a8 > (65535 : Int)))) || (!(kind_Holds a2 a6 a3 a8))) || (!(kind_Holds a4 a7 a5 a8))))] (by kernel_rfl) ?_
 refine WR.batch 3 [(0, .int .u8 a0), (1, .bool a1), (3, .int .u64 a3), (5, .int .u64 a5), (6, .int .u8 a6), (7, .int .u8 a7), (8, .int .i64 a8), (11, pt g2 0), (13, pt g12 0), (51, .bool (((((decide (a8 < (0 : Int))) || (decide (a8 > (65535 : Int)))) || (!(kind_Holds a2 a6 a3 a8))) || (!(kind_Holds a4 a7 a5 a8))) || (decide (a6 > (3 : Int)))))] (by generalize ((((decide (a8 < (0 : Int))) || (decide (a8 > (65535 : Int)))) || (!(kind_Holds a2 a6 a3 a8))) || (!(kind_Holds a4 a7 a5 a8))) = b; cases b <;> kernel_rfl) ?_
 refine WR.batch 1 [(0, .int .u8 a0), (1, .bool a1), (3, .int .u64 a3), (5, .int .u64 a5), (6, .int .u8 a6), (7, .int .u8 a7), (8, .int .i64 a8), (11, pt g2 0), (13, pt g12 0), (52, .bool (((((decide (a8 < (0 : Int))) || (decide (a8 > (65535 : Int)))) || (!(kind_Holds a2 a6 a3 a8))) || (!(kind_Holds a4 a7 a5 a8))) || (decide (a6 > (3 : Int)))))] (by kernel_rfl) ?_
 refine WR.batch 3 [(0, .int .u8 a0), (1, .bool a1), (3, .int .u64 a3), (5, .int .u64 a5), (6, .int .u8 a6), (7, .int .u8 a7), (8, .int .i64 a8), (11, pt g2 0), (13, pt g12 0), (55, .bool ((((((decide (a8 < (0 : Int))) || (decide (a8 > (65535 : Int)))) || (!(kind_Holds a2 a6 a3 a8))) || (!(kind_Holds a4 a7 a5 a8))) || (decide (a6 > (3 : Int)))) || (decide (a7 > (3 : Int)))))] (by generalize (((((decide (a8 < (0 : Int))) || (decide (a8 > (65535 : Int)))) || (!(kind_Holds a2 a6 a3 a8))) || (!(kind_Holds a4 a7 a5 a8))) || (decide (a6 > (3 : Int)))) = b; cases b <;> kernel_rfl) ?_
 refine WR.fin (by kernel_rfl) ?_
 refine go hK36 ?_
 refine CW.cond (((((((decide (a8 < (0 : Int))) || (decide (a8 > (65535 : Int)))) || (!(kind_Holds a2 a6 a3 a8))) || (!(kind_Holds a4 a7 a5 a8))) || (decide (a6 > (3 : Int)))) || (decide (a7 > (3 : Int))))) (by kernel_rfl) (fun ht63 => ?_) (fun ht63 => ?_)
 ·
  have hs64 := ifT ht63 hs34
  replace ht63 : (((((a8 < (0 : Int)) ∨ (a8 > (65535 : Int))) ∨ ((kind_Holds a2 a6 a3 a8) = false)) ∨ ((kind_Holds a4 a7 a5 a8) = false)) ∨ (a6 > (3 : Int))) ∨ (a7 > (3 : Int)) := (orMap (bOrT ht63) (fun h => (orMap (bOrT h) (fun h => (orMap (bOrT h) (fun h => (orMap (bOrT h) (fun h => (orMap (bOrT h) (fun h => (of_decide_eq_true h)) (fun h => (of_decide_eq_true h)))) (fun h => (bNotT h)))) (fun h => (bNotT h)))) (fun h => (of_decide_eq_true h)))) (fun h => (of_decide_eq_true h)))
  refine CW.seq fun K65 hK65 => ?_
  refine CW.region ?_
  refine WR.batch 1 [(18, .bool true)] (by kernel_rfl) ?_
  refine WR.fin (by kernel_rfl) ?_
  refine go hK65 ?_
  refine CW.ret ?_
  exact retV (.bool true) (by kernel_rfl) (⟨hC61, (congrArg (fun r : Bool => (.bool r : Value)) hs64).symm⟩)
 have hs66 := ifF ht63 hs34
 replace ht63 : (((((¬ (a8 < (0 : Int))) ∧ (¬ (a8 > (65535 : Int)))) ∧ ((kind_Holds a2 a6 a3 a8) = true)) ∧ ((kind_Holds a4 a7 a5 a8) = true)) ∧ (¬ (a6 > (3 : Int)))) ∧ (¬ (a7 > (3 : Int))) := ⟨⟨⟨⟨⟨(of_decide_eq_false (bOrF (bOrF (bOrF (bOrF (bOrF ht63).1).1).1).1).1), (of_decide_eq_false (bOrF (bOrF (bOrF (bOrF (bOrF ht63).1).1).1).1).2)⟩, (bNotF (bOrF (bOrF (bOrF (bOrF ht63).1).1).1).2)⟩, (bNotF (bOrF (bOrF (bOrF ht63).1).1).2)⟩, (of_decide_eq_false (bOrF (bOrF ht63).1).2)⟩, (of_decide_eq_false (bOrF ht63).2)⟩
 refine CW.skip ?_
 refine go hK35 ?_
 refine CW.seq fun K67 hK67 => ?_
 refine CW.region ?_
 refine WR.batch 2 [(0, .int .u8 a0), (1, .bool a1), (3, .int .u64 a3), (5, .int .u64 a5), (6, .int .u8 a6), (7, .int .u8 a7), (8, .int .i64 a8), (11, pt g2 0), (13, pt g12 0), (57, .int .u8 a0), (58, .bool a1)] (by kernel_rfl) ?_
 have hb68 := (((hb5.pure hc17).pure hc28).pure hc47).pure hc60
 refine WR.load (dst := some 59) (t := 56) (o := 0) hb68 (by kernel_rfl) (.agg #[.int .u8 a2.Kind, .int .u64 a2.In.Lo, .int .u64 a2.In.Hi]) (by kernel_rfl) ?_
 have hb69 := ((hb15.pure hc28).pure hc47).pure hc60
 refine WR.load (dst := some 60) (t := 56) (o := 0) hb69 (by kernel_rfl) (.agg #[.int .u8 a4.Kind, .int .u64 a4.In.Lo, .int .u64 a4.In.Hi]) (by kernel_rfl) ?_
 obtain ⟨x70, hx71⟩ : ∃ x, kind_Do a0 a1 a2 a4 = x := ⟨_, rfl⟩
 have hs73 := letS hx71 hs66
 have hx72 : IU8 x70.1.Kind ∧ IU64 x70.1.In.Lo ∧ IU64 x70.1.In.Hi ∧ II64 x70.2 := by rw [← hx71]; exact kind_Do_ok a0 a1 a2 a4 (by omega) ⟨(by omega), (by omega), (by omega)⟩ ⟨(by omega), (by omega), (by omega)⟩ 
 refine WR.call (dst := some 61) (by kernel_rfl) (retE (g := (fun r : (TKnown × Int) => (.tuple #[TKnown.v r.1, .int .i64 r.2] : Value))) hx71 (kind_Do_any a0 a1 a2 a4 w59  (by omega) ⟨(by omega), (by omega), (by omega)⟩ ⟨(by omega), (by omega), (by omega)⟩ )) ?_
 rintro _ w74 hc75 rfl
 have hz77 := hc75.size
 have hC76 := hC61.pure hc75
 refine WR.batch 3 [(0, .int .u8 a0), (1, .bool a1), (3, .int .u64 a3), (5, .int .u64 a5), (6, .int .u8 a6), (7, .int .u8 a7), (8, .int .i64 a8), (62, .agg #[.int .u8 x70.1.Kind, .int .u64 x70.1.In.Lo, .int .u64 x70.1.In.Hi]), (63, .int .i64 x70.2)] (by kernel_rfl) ?_
 refine WR.alloc (dst := some 19) (e := 56) (by kernel_rfl) #[.int .u8 0, .int .u64 0, .int .u64 0] (by kernel_rfl) ?_
 intro g78 w79 hN80
 have hf82 : w.heap.size ≤ g78 := Nat.le_trans hC76.size hN80.fresh
 have hfr84 := hN80.fresh
 have hc83 := hN80.chg
 have hz86 := hc83.size
 have hC85 := hC76.pure hc83
 have hb81 := hN80.blk
 have hg87 := hb81.lt
 refine WR.store (t := 56) (o := 0) (v := .agg #[.int .u8 x70.1.Kind, .int .u64 x70.1.In.Lo, .int .u64 x70.1.In.Hi]) hb81 (by kernel_rfl) #[.int .u8 x70.1.Kind, .int .u64 x70.1.In.Lo, .int .u64 x70.1.In.Hi] (by kernel_rfl) ?_
 intro w88 hb89 hc90
 have hz92 := hc90.size
 have hC91 := hC85.step1 hc90 (by omega)
 refine WR.batch 1 [(0, .int .u8 a0), (1, .bool a1), (3, .int .u64 a3), (5, .int .u64 a5), (6, .int .u8 a6), (7, .int .u8 a7), (8, .int .i64 a8), (19, pt g78 0), (20, .int .i64 x70.2)] (by kernel_rfl) ?_
 refine WR.fin (by kernel_rfl) ?_
 refine go hK67 ?_
 refine CW.seq fun K93 hK93 => ?_
 refine CW.seq fun K94 hK94 => ?_
 refine CW.region ?_
 refine WR.batch 2 [(0, .int .u8 a0), (1, .bool a1), (3, .int .u64 a3), (5, .int .u64 a5), (6, .int .u8 a6), (7, .int .u8 a7), (8, .int .i64 a8), (19, pt g78 0), (65, .bool (x70.2 != (0 : Int)))] (by kernel_rfl) ?_
 refine WR.fin (by kernel_rfl) ?_
 refine go hK94 ?_
 refine CW.cond ((x70.2 != (0 : Int))) (by kernel_rfl) (fun ht95 => ?_) (fun ht95 => ?_)
 ·
  have hs96 := ifT ht95 hs73
  replace ht95 : x70.2 ≠ (0 : Int) := (bNeT ht95)
  refine CW.seq fun K97 hK97 => ?_
  refine CW.region ?_
  refine WR.load (dst := some 66) (t := 56) (o := 0) hb89 (by kernel_rfl) (.agg #[.int .u8 x70.1.Kind, .int .u64 x70.1.In.Lo, .int .u64 x70.1.In.Hi]) (by kernel_rfl) ?_
  refine WR.batch 1 [(66, .agg #[.int .u8 x70.1.Kind, .int .u64 x70.1.In.Lo, .int .u64 x70.1.In.Hi]), (67, .agg #[.int .u8 0, .int .u64 0, .int .u64 0])] (by kernel_rfl) ?_
  refine WR.valR (dst := some 68) (v := .bool ((x70.1.Kind == (0 : Int)) && ((x70.1.In.Lo == (0 : Int)) && (x70.1.In.Hi == (0 : Int))))) (w' := w88) (run_eqS (t := 56) (xs := #[.int .u8 x70.1.Kind, .int .u64 x70.1.In.Lo, .int .u64 x70.1.In.Hi]) (ys := #[.int .u8 0, .int .u64 0, .int .u64 0]) (neg := false) (b := ((x70.1.Kind == (0 : Int)) && ((x70.1.In.Lo == (0 : Int)) && (x70.1.In.Hi == (0 : Int))))) (by kernel_rfl) (by kernel_rfl) (by kernel_rfl) w88) ?_
  refine WR.batch 1 [(18, .bool ((x70.1.Kind == (0 : Int)) && ((x70.1.In.Lo == (0 : Int)) && (x70.1.In.Hi == (0 : Int)))))] (by kernel_rfl) ?_
  refine WR.fin (by kernel_rfl) ?_
  refine go hK97 ?_
  refine CW.ret ?_
  exact retV (.bool ((x70.1.Kind == (0 : Int)) && ((x70.1.In.Lo == (0 : Int)) && (x70.1.In.Hi == (0 : Int))))) (by kernel_rfl) (⟨hC91, (congrArg (fun r : Bool => (.bool r : Value)) hs96).symm⟩)
 have hs98 := ifF ht95 hs73
 replace ht95 : x70.2 = (0 : Int) := (bNeF ht95)
 refine CW.skip ?_
 refine go hK93 ?_
 refine CW.seq fun K99 hK99 => ?_
 refine CW.region ?_
 refine WR.batch 6 [(8, .int .i64 a8), (19, pt g78 0), (70, .int .u8 a0), (71, .bool a1), (72, .int .u8 a6), (73, .int .u64 a3), (74, .int .u8 a7), (75, .int .u64 a5)] (by kernel_rfl) ?_
 obtain ⟨x100, hx101⟩ : ∃ x, law12_made a0 a1 a6 a3 a7 a5 = x := ⟨_, rfl⟩
 have hs103 := letS hx101 hs98
 have hx102 : IU8 x100.1 ∧ IU64 x100.2.1 := by rw [← hx101]; exact law12_made_ok a0 a1 a6 a3 a7 a5 (by omega) (by omega) (by omega) (by omega) (by omega) 
 refine WR.call (dst := some 76) (by kernel_rfl) (retE (g := (fun r : (Int × Int × Bool) => (.tuple #[.int .u8 r.1, .int .u64 r.2.1, .bool r.2.2] : Value))) hx101 (law12_made_any a0 a1 a6 a3 a7 a5 w88  (by omega) (by omega) (by omega) (by omega) (by omega) )) ?_
 rintro _ w104 hc105 rfl
 have hz107 := hc105.size
 have hC106 := hC91.pure hc105
 refine WR.batch 7 [(8, .int .i64 a8), (19, pt g78 0), (21, .int .u8 x100.1), (22, .int .u64 x100.2.1), (23, .bool x100.2.2)] (by kernel_rfl) ?_
 refine WR.fin (by kernel_rfl) ?_
 refine go hK99 ?_
 refine CW.seq fun K108 hK108 => ?_
 refine CW.region ?_
 refine WR.batch 2 [(8, .int .i64 a8), (19, pt g78 0), (21, .int .u8 x100.1), (22, .int .u64 x100.2.1), (81, .bool x100.2.2)] (by kernel_rfl) ?_
 refine WR.mergeW 8 [(87, .bool (x100.2.2 && (kind_Holds x70.1 x100.1 x100.2.1 a8)))] (fun w' => Chg [] w104 w') (fun Q' => ?_) ?_
 ·
  cases hg109 : x100.2.2
  ·
   have hk111 := hg109
   intro hM110
   refine WR.batch 6 [(87, .bool false)] (by kernel_rfl) ?_
   exact WR.keep [87] (by kernel_rfl) (hM110 _ (Chg.refl [] w104))
  ·
   have hk112 := hg109
   intro hM110
   have hb113 := hb89.pure hc105
   refine WR.load (dst := some 82) (t := 56) (o := 0) hb113 (by kernel_rfl) (.agg #[.int .u8 x70.1.Kind, .int .u64 x70.1.In.Lo, .int .u64 x70.1.In.Hi]) (by kernel_rfl) ?_
   refine WR.batch 3 [(81, .bool true), (82, .agg #[.int .u8 x70.1.Kind, .int .u64 x70.1.In.Lo, .int .u64 x70.1.In.Hi]), (83, .int .u8 x100.1), (84, .int .u64 x100.2.1), (85, .int .i64 a8)] (by kernel_rfl) ?_
   refine WR.call (dst := some 86) (by kernel_rfl) (kind_Holds_any x70.1 x100.1 x100.2.1 a8 w104  ⟨(by omega), (by omega), (by omega)⟩ (by omega) (by omega) (by omega) ) ?_
   rintro _ w114 hc115 rfl
   have hz117 := hc115.size
   have hC116 := hC106.pure hc115
   refine WR.batch 1 [(87, .bool (kind_Holds x70.1 x100.1 x100.2.1 a8))] (by kernel_rfl) ?_
   exact WR.keep [87] (by kernel_rfl) (hM110 _ ((Chg.refl [] w104).pure hc115))
 intro w118 hc119
 have hz121 := hc119.size
 have hC120 := hC106.pure hc119
 refine WR.batch 1 [(18, .bool (x100.2.2 && (kind_Holds x70.1 x100.1 x100.2.1 a8)))] (by kernel_rfl) ?_
 refine WR.fin (by kernel_rfl) ?_
 refine go hK108 ?_
 refine CW.ret ?_
 exact retV (.bool (x100.2.2 && (kind_Holds x70.1 x100.1 x100.2.1 a8))) (by kernel_rfl) (⟨hC120, (congrArg (fun r : Bool => (.bool r : Value)) hs103).symm⟩)
end Go.V
