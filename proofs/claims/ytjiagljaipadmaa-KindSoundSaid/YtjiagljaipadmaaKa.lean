import Derived.Test.YtjiagljaipadmaaProg
import Derived.Test.YtjiagljaipadmaaSz
import Derived.Test.YtjiagljaipadmaaKb
namespace Go.V
open Go.RowKit Go.Proofs
def kind_Do_J1 (a0 : Int) (_a1 : Bool) (_a2 : TKnown) (_a3 : TKnown) (v100 : Int) (v101 : Int) (v102 : Int) (_v103 : Int) (_v104 : Int) (_v105 : Int) (_x160 : (TSpan × Bool)) (x185 : (TSpan × Bool)) (v200 : Bool) : (TKnown × Int) := (if v200 then ((⟨v100, (span_Do a0 false (⟨v101, v102⟩ : TSpan) x185.1)⟩ : TKnown), (0 : Int)) else ((⟨(0 : Int), (⟨(0 : Int), (0 : Int)⟩ : TSpan)⟩ : TKnown), (114 : Int)))

def kind_Do_J0 (a0 : Int) (a1 : Bool) (a2 : TKnown) (a3 : TKnown) (v100 : Int) (v101 : Int) (v102 : Int) (v103 : Int) (v104 : Int) (v105 : Int) : (TKnown × Int) := (letF (kind_number (⟨v100, (⟨v101, v102⟩ : TSpan)⟩ : TKnown)) fun x160 => (letF (kind_number (⟨v103, (⟨v104, v105⟩ : TSpan)⟩ : TKnown)) fun x185 => (if (((x160.2 && x185.2) && ((a0 == (4 : Int)) || (a0 == (5 : Int)))) && (kind_nought x185.1 a1)) then ((⟨(0 : Int), (⟨(0 : Int), (0 : Int)⟩ : TSpan)⟩ : TKnown), (113 : Int)) else (if (x160.2 && x185.2) then (letF (span_Do a0 a1 x160.1 x185.1) fun x248 => ((⟨(1 : Int), x248⟩ : TKnown), (0 : Int))) else (if (((((a0 == (1 : Int)) || (a0 == (2 : Int))) && (!a1)) && x185.2) && (v100 == (2 : Int))) then (kind_Do_J1 a0 a1 a2 a3 v100 v101 v102 v103 v104 v105 x160 x185 true) else (kind_Do_J1 a0 a1 a2 a3 v100 v101 v102 v103 v104 v105 x160 x185 ((((((a0 == (1 : Int)) || (a0 == (2 : Int))) && (!a1)) && x185.2) && (v100 == (3 : Int))) && (x185.1.Lo == x185.1.Hi))))))))

def kind_Do (a0 : Int) (a1 : Bool) (a2 : TKnown) (a3 : TKnown)  : (TKnown × Int) := (if ((((decide (a0 < (1 : Int))) || (decide (a0 > (13 : Int)))) || (!(kind_Right a2))) || (!(kind_Right a3))) then ((⟨(0 : Int), (⟨(0 : Int), (0 : Int)⟩ : TSpan)⟩ : TKnown), (2 : Int)) else (if (((a0 != (12 : Int)) && (a2.Kind == (0 : Int))) || ((a0 != (13 : Int)) && (a3.Kind == (0 : Int)))) then ((⟨(0 : Int), (⟨(0 : Int), (0 : Int)⟩ : TSpan)⟩ : TKnown), (110 : Int)) else (if ((a0 == (12 : Int)) && (!a1)) then (a3, (0 : Int)) else (if (a0 == (12 : Int)) then (kind_Do_J0 a0 a1 a2 a3 a3.Kind a3.In.Lo a3.In.Hi a3.Kind a3.In.Lo a3.In.Hi) else (if (a0 == (13 : Int)) then (kind_Do_J0 a0 a1 a2 a3 a2.Kind a2.In.Lo a2.In.Hi a2.Kind a2.In.Lo a2.In.Hi) else (kind_Do_J0 a0 a1 a2 a3 a2.Kind a2.In.Lo a2.In.Hi a3.Kind a3.In.Lo a3.In.Hi))))))

theorem kind_Do_J1_ok (a0 : Int) (a1 : Bool) (a2 : TKnown) (a3 : TKnown) (v100 : Int) (v101 : Int) (v102 : Int) (v103 : Int) (v104 : Int) (v105 : Int) (x160 : (TSpan × Bool)) (x185 : (TSpan × Bool)) (_h_a0 : IU8 a0) (_h_a2 : IU8 a2.Kind ∧ IU64 a2.In.Lo ∧ IU64 a2.In.Hi) (_h_a3 : IU8 a3.Kind ∧ IU64 a3.In.Lo ∧ IU64 a3.In.Hi)  (v200 : Bool) (_hr_v100 : IU8 v100) (_hr_v101 : IU64 v101) (_hr_v102 : IU64 v102) (_hr_v103 : IU8 v103) (_hr_v104 : IU64 v104) (_hr_v105 : IU64 v105) (_hx162 : IU64 x160.1.Lo ∧ IU64 x160.1.Hi) (_hx187 : IU64 x185.1.Lo ∧ IU64 x185.1.Hi) : IU8 (kind_Do_J1 a0 a1 a2 a3 v100 v101 v102 v103 v104 v105 x160 x185 v200).1.Kind ∧ IU64 (kind_Do_J1 a0 a1 a2 a3 v100 v101 v102 v103 v104 v105 x160 x185 v200).1.In.Lo ∧ IU64 (kind_Do_J1 a0 a1 a2 a3 v100 v101 v102 v103 v104 v105 x160 x185 v200).1.In.Hi ∧ II64 (kind_Do_J1 a0 a1 a2 a3 v100 v101 v102 v103 v104 v105 x160 x185 v200).2 := by
 rw [kind_Do_J1.eq_1]
 refine iteR (p := fun r : (TKnown × Int) => IU8 r.1.Kind ∧ IU64 r.1.In.Lo ∧ IU64 r.1.In.Hi ∧ II64 r.2) (fun hi1001 => ?_) (fun hi1001 => ?_)
 ·
  exact (by have : IU64 (span_Do a0 false (⟨v101, v102⟩ : TSpan) x185.1).Lo ∧ IU64 (span_Do a0 false (⟨v101, v102⟩ : TSpan) x185.1).Hi := span_Do_ok a0 false (⟨v101, v102⟩ : TSpan) x185.1 (by omega) (show IU64 v101 ∧ IU64 v102 from ⟨(by omega), (by omega)⟩) ⟨(by omega), (by omega)⟩ ; exact (show IU8 v100 ∧ IU64 (span_Do a0 false (⟨v101, v102⟩ : TSpan) x185.1).Lo ∧ IU64 (span_Do a0 false (⟨v101, v102⟩ : TSpan) x185.1).Hi ∧ II64 (0 : Int) from ⟨(by omega), (by omega), (by omega), (by omega)⟩))
 exact (by exact (show IU8 (0 : Int) ∧ IU64 (0 : Int) ∧ IU64 (0 : Int) ∧ II64 (114 : Int) from ⟨(by omega), (by omega), (by omega), (by omega)⟩))

theorem kind_Do_J0_ok (a0 : Int) (a1 : Bool) (a2 : TKnown) (a3 : TKnown) (h_a0 : IU8 a0) (h_a2 : IU8 a2.Kind ∧ IU64 a2.In.Lo ∧ IU64 a2.In.Hi) (h_a3 : IU8 a3.Kind ∧ IU64 a3.In.Lo ∧ IU64 a3.In.Hi)  (v100 : Int) (v101 : Int) (v102 : Int) (v103 : Int) (v104 : Int) (v105 : Int) (hr_v100 : IU8 v100) (hr_v101 : IU64 v101) (hr_v102 : IU64 v102) (hr_v103 : IU8 v103) (hr_v104 : IU64 v104) (hr_v105 : IU64 v105) : IU8 (kind_Do_J0 a0 a1 a2 a3 v100 v101 v102 v103 v104 v105).1.Kind ∧ IU64 (kind_Do_J0 a0 a1 a2 a3 v100 v101 v102 v103 v104 v105).1.In.Lo ∧ IU64 (kind_Do_J0 a0 a1 a2 a3 v100 v101 v102 v103 v104 v105).1.In.Hi ∧ II64 (kind_Do_J0 a0 a1 a2 a3 v100 v101 v102 v103 v104 v105).2 := by
 rw [kind_Do_J0.eq_1]
 refine letR (p := fun r : (TKnown × Int) => IU8 r.1.Kind ∧ IU64 r.1.In.Lo ∧ IU64 r.1.In.Hi ∧ II64 r.2) fun x160 hx161 => ?_
 have hx162 : IU64 x160.1.Lo ∧ IU64 x160.1.Hi := by rw [← hx161]; exact kind_number_ok (⟨v100, (⟨v101, v102⟩ : TSpan)⟩ : TKnown) (show IU8 v100 ∧ IU64 v101 ∧ IU64 v102 from ⟨(by omega), (by omega), (by omega)⟩) 
 refine letR (p := fun r : (TKnown × Int) => IU8 r.1.Kind ∧ IU64 r.1.In.Lo ∧ IU64 r.1.In.Hi ∧ II64 r.2) fun x185 hx186 => ?_
 have hx187 : IU64 x185.1.Lo ∧ IU64 x185.1.Hi := by rw [← hx186]; exact kind_number_ok (⟨v103, (⟨v104, v105⟩ : TSpan)⟩ : TKnown) (show IU8 v103 ∧ IU64 v104 ∧ IU64 v105 from ⟨(by omega), (by omega), (by omega)⟩) 
 refine iteR (p := fun r : (TKnown × Int) => IU8 r.1.Kind ∧ IU64 r.1.In.Lo ∧ IU64 r.1.In.Hi ∧ II64 r.2) (fun hi1002 => ?_) (fun hi1002 => ?_)
 ·
  replace hi1002 : (((x160.2 = true) ∧ (x185.2 = true)) ∧ ((a0 = (4 : Int)) ∨ (a0 = (5 : Int)))) ∧ ((kind_nought x185.1 a1) = true) := ⟨⟨⟨(bAndT (bAndT (bAndT hi1002).1).1).1, (bAndT (bAndT (bAndT hi1002).1).1).2⟩, (orMap (bOrT (bAndT (bAndT hi1002).1).2) (fun h => (bEqT h)) (fun h => (bEqT h)))⟩, (bAndT hi1002).2⟩
  exact (by exact (show IU8 (0 : Int) ∧ IU64 (0 : Int) ∧ IU64 (0 : Int) ∧ II64 (113 : Int) from ⟨(by omega), (by omega), (by omega), (by omega)⟩))
 replace hi1002 : (((x160.2 = false) ∨ (x185.2 = false)) ∨ ((a0 ≠ (4 : Int)) ∧ (a0 ≠ (5 : Int)))) ∨ ((kind_nought x185.1 a1) = false) := (orMap (bAndF hi1002) (fun h => (orMap (bAndF h) (fun h => (orMap (bAndF h) (fun h => h) (fun h => h))) (fun h => ⟨(bEqF (bOrF h).1), (bEqF (bOrF h).2)⟩))) (fun h => h))
 refine iteR (p := fun r : (TKnown × Int) => IU8 r.1.Kind ∧ IU64 r.1.In.Lo ∧ IU64 r.1.In.Hi ∧ II64 r.2) (fun hi1003 => ?_) (fun hi1003 => ?_)
 ·
  replace hi1003 : (x160.2 = true) ∧ (x185.2 = true) := ⟨(bAndT hi1003).1, (bAndT hi1003).2⟩
  refine letR (p := fun r : (TKnown × Int) => IU8 r.1.Kind ∧ IU64 r.1.In.Lo ∧ IU64 r.1.In.Hi ∧ II64 r.2) fun x248 hx249 => ?_
  have hx250 : IU64 x248.Lo ∧ IU64 x248.Hi := by rw [← hx249]; exact span_Do_ok a0 a1 x160.1 x185.1 (by omega) ⟨(by omega), (by omega)⟩ ⟨(by omega), (by omega)⟩ 
  exact (by exact (show IU8 (1 : Int) ∧ IU64 x248.Lo ∧ IU64 x248.Hi ∧ II64 (0 : Int) from ⟨(by omega), (by omega), (by omega), (by omega)⟩))
 replace hi1003 : (x160.2 = false) ∨ (x185.2 = false) := (orMap (bAndF hi1003) (fun h => h) (fun h => h))
 refine iteR (p := fun r : (TKnown × Int) => IU8 r.1.Kind ∧ IU64 r.1.In.Lo ∧ IU64 r.1.In.Hi ∧ II64 r.2) (fun hi1004 => ?_) (fun hi1004 => ?_)
 ·
  replace hi1004 : ((((a0 = (1 : Int)) ∨ (a0 = (2 : Int))) ∧ (a1 = false)) ∧ (x185.2 = true)) ∧ (v100 = (2 : Int)) := ⟨⟨⟨(orMap (bOrT (bAndT (bAndT (bAndT hi1004).1).1).1) (fun h => (bEqT h)) (fun h => (bEqT h))), (bNotT (bAndT (bAndT (bAndT hi1004).1).1).2)⟩, (bAndT (bAndT hi1004).1).2⟩, (bEqT (bAndT hi1004).2)⟩
  exact kind_Do_J1_ok a0 a1 a2 a3 v100 v101 v102 v103 v104 v105 x160 x185 h_a0 h_a2 h_a3  true hr_v100 hr_v101 hr_v102 hr_v103 hr_v104 hr_v105 hx162 hx187
 replace hi1004 : ((((a0 ≠ (1 : Int)) ∧ (a0 ≠ (2 : Int))) ∨ (a1 = true)) ∨ (x185.2 = false)) ∨ (v100 ≠ (2 : Int)) := (orMap (bAndF hi1004) (fun h => (orMap (bAndF h) (fun h => (orMap (bAndF h) (fun h => ⟨(bEqF (bOrF h).1), (bEqF (bOrF h).2)⟩) (fun h => (bNotF h)))) (fun h => h))) (fun h => (bEqF h)))
 exact kind_Do_J1_ok a0 a1 a2 a3 v100 v101 v102 v103 v104 v105 x160 x185 h_a0 h_a2 h_a3  ((((((a0 == (1 : Int)) || (a0 == (2 : Int))) && (!a1)) && x185.2) && (v100 == (3 : Int))) && (x185.1.Lo == x185.1.Hi)) hr_v100 hr_v101 hr_v102 hr_v103 hr_v104 hr_v105 hx162 hx187

theorem kind_Do_ok (a0 : Int) (a1 : Bool) (a2 : TKnown) (a3 : TKnown)  (h_a0 : IU8 a0) (h_a2 : IU8 a2.Kind ∧ IU64 a2.In.Lo ∧ IU64 a2.In.Hi) (h_a3 : IU8 a3.Kind ∧ IU64 a3.In.Lo ∧ IU64 a3.In.Hi)  : IU8 (kind_Do a0 a1 a2 a3).1.Kind ∧ IU64 (kind_Do a0 a1 a2 a3).1.In.Lo ∧ IU64 (kind_Do a0 a1 a2 a3).1.In.Hi ∧ II64 (kind_Do a0 a1 a2 a3).2 := by
 rw [kind_Do.eq_1]
 refine iteR (p := fun r : (TKnown × Int) => IU8 r.1.Kind ∧ IU64 r.1.In.Lo ∧ IU64 r.1.In.Hi ∧ II64 r.2) (fun hi1005 => ?_) (fun hi1005 => ?_)
 ·
  replace hi1005 : (((a0 < (1 : Int)) ∨ (a0 > (13 : Int))) ∨ ((kind_Right a2) = false)) ∨ ((kind_Right a3) = false) := (orMap (bOrT hi1005) (fun h => (orMap (bOrT h) (fun h => (orMap (bOrT h) (fun h => (of_decide_eq_true h)) (fun h => (of_decide_eq_true h)))) (fun h => (bNotT h)))) (fun h => (bNotT h)))
  exact (by exact (show IU8 (0 : Int) ∧ IU64 (0 : Int) ∧ IU64 (0 : Int) ∧ II64 (2 : Int) from ⟨(by omega), (by omega), (by omega), (by omega)⟩))
 replace hi1005 : (((¬ (a0 < (1 : Int))) ∧ (¬ (a0 > (13 : Int)))) ∧ ((kind_Right a2) = true)) ∧ ((kind_Right a3) = true) := ⟨⟨⟨(of_decide_eq_false (bOrF (bOrF (bOrF hi1005).1).1).1), (of_decide_eq_false (bOrF (bOrF (bOrF hi1005).1).1).2)⟩, (bNotF (bOrF (bOrF hi1005).1).2)⟩, (bNotF (bOrF hi1005).2)⟩
 refine iteR (p := fun r : (TKnown × Int) => IU8 r.1.Kind ∧ IU64 r.1.In.Lo ∧ IU64 r.1.In.Hi ∧ II64 r.2) (fun hi1006 => ?_) (fun hi1006 => ?_)
 ·
  replace hi1006 : ((a0 ≠ (12 : Int)) ∧ (a2.Kind = (0 : Int))) ∨ ((a0 ≠ (13 : Int)) ∧ (a3.Kind = (0 : Int))) := (orMap (bOrT hi1006) (fun h => ⟨(bNeT (bAndT h).1), (bEqT (bAndT h).2)⟩) (fun h => ⟨(bNeT (bAndT h).1), (bEqT (bAndT h).2)⟩))
  exact (by exact (show IU8 (0 : Int) ∧ IU64 (0 : Int) ∧ IU64 (0 : Int) ∧ II64 (110 : Int) from ⟨(by omega), (by omega), (by omega), (by omega)⟩))
 replace hi1006 : ((a0 = (12 : Int)) ∨ (a2.Kind ≠ (0 : Int))) ∧ ((a0 = (13 : Int)) ∨ (a3.Kind ≠ (0 : Int))) := ⟨(orMap (bAndF (bOrF hi1006).1) (fun h => (bNeF h)) (fun h => (bEqF h))), (orMap (bAndF (bOrF hi1006).2) (fun h => (bNeF h)) (fun h => (bEqF h)))⟩
 refine iteR (p := fun r : (TKnown × Int) => IU8 r.1.Kind ∧ IU64 r.1.In.Lo ∧ IU64 r.1.In.Hi ∧ II64 r.2) (fun hi1007 => ?_) (fun hi1007 => ?_)
 ·
  replace hi1007 : (a0 = (12 : Int)) ∧ (a1 = false) := ⟨(bEqT (bAndT hi1007).1), (bNotT (bAndT hi1007).2)⟩
  exact (by exact (show IU8 a3.Kind ∧ IU64 a3.In.Lo ∧ IU64 a3.In.Hi ∧ II64 (0 : Int) from ⟨(by omega), (by omega), (by omega), (by omega)⟩))
 replace hi1007 : (a0 ≠ (12 : Int)) ∨ (a1 = true) := (orMap (bAndF hi1007) (fun h => (bEqF h)) (fun h => (bNotF h)))
 refine iteR (p := fun r : (TKnown × Int) => IU8 r.1.Kind ∧ IU64 r.1.In.Lo ∧ IU64 r.1.In.Hi ∧ II64 r.2) (fun hi1008 => ?_) (fun hi1008 => ?_)
 ·
  replace hi1008 : a0 = (12 : Int) := (bEqT hi1008)
  exact kind_Do_J0_ok a0 a1 a2 a3 h_a0 h_a2 h_a3  a3.Kind a3.In.Lo a3.In.Hi a3.Kind a3.In.Lo a3.In.Hi (by omega) (by omega) (by omega) (by omega) (by omega) (by omega)
 replace hi1008 : a0 ≠ (12 : Int) := (bEqF hi1008)
 refine iteR (p := fun r : (TKnown × Int) => IU8 r.1.Kind ∧ IU64 r.1.In.Lo ∧ IU64 r.1.In.Hi ∧ II64 r.2) (fun hi1009 => ?_) (fun hi1009 => ?_)
 ·
  replace hi1009 : a0 = (13 : Int) := (bEqT hi1009)
  exact kind_Do_J0_ok a0 a1 a2 a3 h_a0 h_a2 h_a3  a2.Kind a2.In.Lo a2.In.Hi a2.Kind a2.In.Lo a2.In.Hi (by omega) (by omega) (by omega) (by omega) (by omega) (by omega)
 replace hi1009 : a0 ≠ (13 : Int) := (bEqF hi1009)
 exact kind_Do_J0_ok a0 a1 a2 a3 h_a0 h_a2 h_a3  a2.Kind a2.In.Lo a2.In.Hi a3.Kind a3.In.Lo a3.In.Hi (by omega) (by omega) (by omega) (by omega) (by omega) (by omega)

set_option maxRecDepth 100000 in
set_option maxHeartbeats 4000000 in
theorem kind_Do_any (a0 : Int) (a1 : Bool) (a2 : TKnown) (a3 : TKnown)   (w : World)  (_h_a0 : IU8 a0) (_h_a2 : IU8 a2.Kind ∧ IU64 a2.In.Lo ∧ IU64 a2.In.Hi) (_h_a3 : IU8 a3.Kind ∧ IU64 a3.In.Lo ∧ IU64 a3.In.Hi)  : Calls Try.prog 38 #[.int .u8 a0, .bool a1, .agg #[.int .u8 a2.Kind, .int .u64 a2.In.Lo, .int .u64 a2.In.Hi], .agg #[.int .u8 a3.Kind, .int .u64 a3.In.Lo, .int .u64 a3.In.Hi]] w (RetV w (.tuple #[TKnown.v (kind_Do a0 a1 a2 a3).1, .int .i64 (kind_Do a0 a1 a2 a3).2])) := by
 have hs := kind_Do.eq_1 a0 a1 a2 a3
 refine calls_of_CW Try.func38 rfl (n := 149) Try.ntmps38 (by kernel_rfl) [0, 1, 2, 3] (F := [(0, .int .u8 a0), (1, .bool a1), (2, .agg #[.int .u8 a2.Kind, .int .u64 a2.In.Lo, .int .u64 a2.In.Hi]), (3, .agg #[.int .u8 a3.Kind, .int .u64 a3.In.Lo, .int .u64 a3.In.Hi])]) (by kernel_rfl) ?_
 refine CW.seq fun K1 hK1 => ?_
 refine CW.region ?_
 refine WR.box (dst := some 6) (e := 56) (v := .agg #[.int .u8 a2.Kind, .int .u64 a2.In.Lo, .int .u64 a2.In.Hi]) (by kernel_rfl) #[.int .u8 a2.Kind, .int .u64 a2.In.Lo, .int .u64 a2.In.Hi] (by kernel_rfl) ?_
 intro g2 w3 hN4
 have hf6 : w.heap.size ≤ g2 := hN4.fresh
 have hfr8 := hN4.fresh
 have hc7 := hN4.chg
 have hz10 := hc7.size
 have hC9 := (Chg.refl [] w).pure hc7
 have hb5 := hN4.blk
 have hg11 := hb5.lt
 refine WR.box (dst := some 7) (e := 56) (v := .agg #[.int .u8 a3.Kind, .int .u64 a3.In.Lo, .int .u64 a3.In.Hi]) (by kernel_rfl) #[.int .u8 a3.Kind, .int .u64 a3.In.Lo, .int .u64 a3.In.Hi] (by kernel_rfl) ?_
 intro g12 w13 hN14
 have hf16 : w.heap.size ≤ g12 := Nat.le_trans hC9.size hN14.fresh
 have hfr18 := hN14.fresh
 have hc17 := hN14.chg
 have hz20 := hc17.size
 have hC19 := hC9.pure hc17
 have hb15 := hN14.blk
 have hg21 := hb15.lt
 refine WR.alloc (dst := some 8) (e := 56) (by kernel_rfl) #[.int .u8 0, .int .u64 0, .int .u64 0] (by kernel_rfl) ?_
 intro g22 w23 hN24
 have hf26 : w.heap.size ≤ g22 := Nat.le_trans hC19.size hN24.fresh
 have hfr28 := hN24.fresh
 have hc27 := hN24.chg
 have hz30 := hc27.size
 have hC29 := hC19.pure hc27
 have hb25 := hN24.blk
 have hg31 := hb25.lt
 refine WR.batch 1 [(0, .int .u8 a0), (1, .bool a1), (6, pt g2 0), (7, pt g12 0), (8, pt g22 0)] (by kernel_rfl) ?_
 refine WR.fin (by kernel_rfl) ?_
 refine go hK1 ?_
 refine CW.seq fun K32 hK32 => ?_
 refine CW.join hK32 (fun F' w' => ∃ (v100 : Int) (v101 : Int) (v102 : Int) (v103 : Int) (v104 : Int) (v105 : Int), F' = [(0, .int .u8 a0), (1, .bool a1), (6, pt g2 0), (7, pt g12 0), (8, pt g22 0)] ∧ Chg [] w w' ∧ Blk w' g2 #[.int .u8 v100, .int .u64 v101, .int .u64 v102] 56 ∧ Blk w' g12 #[.int .u8 v103, .int .u64 v104, .int .u64 v105] 56 ∧ Blk w' g22 #[.int .u8 0, .int .u64 0, .int .u64 0] 56 ∧ (IU8 v100) ∧ (IU64 v101) ∧ (IU64 v102) ∧ (IU8 v103) ∧ (IU64 v104) ∧ (IU64 v105) ∧ (kind_Do a0 a1 a2 a3) = kind_Do_J0 a0 a1 a2 a3 v100 v101 v102 v103 v104 v105) ?_ ?_
 ·
  refine CW.block ?_
  refine CW.seq fun K39 hK39 => ?_
  refine CW.region ?_
  refine WR.batch 3 [(0, .int .u8 a0), (1, .bool a1), (6, pt g2 0), (7, pt g12 0), (8, pt g22 0), (18, .bool (decide (a0 < (1 : Int))))] (by kernel_rfl) ?_
  refine WR.batch 3 [(0, .int .u8 a0), (1, .bool a1), (6, pt g2 0), (7, pt g12 0), (8, pt g22 0), (21, .bool ((decide (a0 < (1 : Int))) || (decide (a0 > (13 : Int)))))] (by generalize decide (a0 < (1 : Int)) = b; cases b <;> kernel_rfl) ?_
  refine WR.batch 1 [(0, .int .u8 a0), (1, .bool a1), (6, pt g2 0), (7, pt g12 0), (8, pt g22 0), (22, .bool ((decide (a0 < (1 : Int))) || (decide (a0 > (13 : Int)))))] (by kernel_rfl) ?_
  refine WR.mergeW 11 [(0, .int .u8 a0), (1, .bool a1), (6, pt g2 0), (7, pt g12 0), (8, pt g22 0), (26, .bool (((decide (a0 < (1 : Int))) || (decide (a0 > (13 : Int)))) || (!(kind_Right a2))))] (fun w' => Chg [] w23 w') (fun Q' => ?_) ?_
  ·
   cases hg40 : ((decide (a0 < (1 : Int))) || (decide (a0 > (13 : Int))))
   ·
    have hk42 := hg40
    replace hg40 : (¬ (a0 < (1 : Int))) ∧ (¬ (a0 > (13 : Int))) := ⟨(of_decide_eq_false (bOrF hg40).1), (of_decide_eq_false (bOrF hg40).2)⟩
    intro hM41
    have hb43 := (hb5.pure hc17).pure hc27
    refine WR.load (dst := some 23) (t := 56) (o := 0) hb43 (by kernel_rfl) (.agg #[.int .u8 a2.Kind, .int .u64 a2.In.Lo, .int .u64 a2.In.Hi]) (by kernel_rfl) ?_
    refine WR.call (dst := some 24) (by kernel_rfl) (kind_Right_any a2 w23  ⟨(by omega), (by omega), (by omega)⟩ ) ?_
    rintro _ w44 hc45 rfl
    have hz47 := hc45.size
    have hC46 := hC29.pure hc45
    refine WR.batch 2 [(0, .int .u8 a0), (1, .bool a1), (6, pt g2 0), (7, pt g12 0), (8, pt g22 0), (26, .bool (!(kind_Right a2)))] (by kernel_rfl) ?_
    exact WR.keep [0, 1, 6, 7, 8, 26] (by kernel_rfl) (hM41 _ ((Chg.refl [] w23).pure hc45))
   ·
    have hk48 := hg40
    replace hg40 : (a0 < (1 : Int)) ∨ (a0 > (13 : Int)) := (orMap (bOrT hg40) (fun h => (of_decide_eq_true h)) (fun h => (of_decide_eq_true h)))
    intro hM41
    refine WR.batch 4 [(0, .int .u8 a0), (1, .bool a1), (6, pt g2 0), (7, pt g12 0), (8, pt g22 0), (26, .bool true)] (by kernel_rfl) ?_
    exact WR.keep [0, 1, 6, 7, 8, 26] (by kernel_rfl) (hM41 _ (Chg.refl [] w23))
  intro w49 hc50
  have hz52 := hc50.size
  have hC51 := hC29.pure hc50
  refine WR.batch 1 [(0, .int .u8 a0), (1, .bool a1), (6, pt g2 0), (7, pt g12 0), (8, pt g22 0), (27, .bool (((decide (a0 < (1 : Int))) || (decide (a0 > (13 : Int)))) || (!(kind_Right a2))))] (by kernel_rfl) ?_
  refine WR.mergeW 16 [(0, .int .u8 a0), (1, .bool a1), (6, pt g2 0), (7, pt g12 0), (8, pt g22 0), (31, .bool ((((decide (a0 < (1 : Int))) || (decide (a0 > (13 : Int)))) || (!(kind_Right a2))) || (!(kind_Right a3))))] (fun w' => Chg [] w49 w') (fun Q' => ?_) ?_
  ·
   cases hg53 : (((decide (a0 < (1 : Int))) || (decide (a0 > (13 : Int)))) || (!(kind_Right a2)))
   ·
    have hk55 := hg53
    replace hg53 : ((¬ (a0 < (1 : Int))) ∧ (¬ (a0 > (13 : Int)))) ∧ ((kind_Right a2) = true) := ⟨⟨(of_decide_eq_false (bOrF (bOrF hg53).1).1), (of_decide_eq_false (bOrF (bOrF hg53).1).2)⟩, (bNotF (bOrF hg53).2)⟩
    intro hM54
    have hb56 := (hb15.pure hc27).pure hc50
    refine WR.load (dst := some 28) (t := 56) (o := 0) hb56 (by kernel_rfl) (.agg #[.int .u8 a3.Kind, .int .u64 a3.In.Lo, .int .u64 a3.In.Hi]) (by kernel_rfl) ?_
    refine WR.call (dst := some 29) (by kernel_rfl) (kind_Right_any a3 w49  ⟨(by omega), (by omega), (by omega)⟩ ) ?_
    rintro _ w57 hc58 rfl
    have hz60 := hc58.size
    have hC59 := hC51.pure hc58
    refine WR.batch 2 [(0, .int .u8 a0), (1, .bool a1), (6, pt g2 0), (7, pt g12 0), (8, pt g22 0), (31, .bool (!(kind_Right a3)))] (by kernel_rfl) ?_
    exact WR.keep [0, 1, 6, 7, 8, 31] (by kernel_rfl) (hM54 _ ((Chg.refl [] w49).pure hc58))
   ·
    have hk61 := hg53
    replace hg53 : ((a0 < (1 : Int)) ∨ (a0 > (13 : Int))) ∨ ((kind_Right a2) = false) := (orMap (bOrT hg53) (fun h => (orMap (bOrT h) (fun h => (of_decide_eq_true h)) (fun h => (of_decide_eq_true h)))) (fun h => (bNotT h)))
    intro hM54
    refine WR.batch 4 [(0, .int .u8 a0), (1, .bool a1), (6, pt g2 0), (7, pt g12 0), (8, pt g22 0), (31, .bool true)] (by kernel_rfl) ?_
    exact WR.keep [0, 1, 6, 7, 8, 31] (by kernel_rfl) (hM54 _ (Chg.refl [] w49))
  intro w62 hc63
  have hz65 := hc63.size
  have hC64 := hC51.pure hc63
  refine WR.batch 1 [(0, .int .u8 a0), (1, .bool a1), (6, pt g2 0), (7, pt g12 0), (8, pt g22 0), (15, .bool ((((decide (a0 < (1 : Int))) || (decide (a0 > (13 : Int)))) || (!(kind_Right a2))) || (!(kind_Right a3))))] (by kernel_rfl) ?_
  refine WR.fin (by kernel_rfl) ?_
  refine go hK39 ?_
  refine CW.cond (((((decide (a0 < (1 : Int))) || (decide (a0 > (13 : Int)))) || (!(kind_Right a2))) || (!(kind_Right a3)))) (by kernel_rfl) (fun ht66 => ?_) (fun ht66 => ?_)
  ·
   have hs67 := ifT ht66 hs
   replace ht66 : (((a0 < (1 : Int)) ∨ (a0 > (13 : Int))) ∨ ((kind_Right a2) = false)) ∨ ((kind_Right a3) = false) := (orMap (bOrT ht66) (fun h => (orMap (bOrT h) (fun h => (orMap (bOrT h) (fun h => (of_decide_eq_true h)) (fun h => (of_decide_eq_true h)))) (fun h => (bNotT h)))) (fun h => (bNotT h)))
   refine CW.seq fun K68 hK68 => ?_
   refine CW.region ?_
   refine WR.batch 1 [(8, pt g22 0), (32, .agg #[.int .u8 0, .int .u64 0, .int .u64 0])] (by kernel_rfl) ?_
   have hb72 := (hb25.pure hc50).pure hc63
   refine WR.store (t := 56) (o := 0) (v := .agg #[.int .u8 0, .int .u64 0, .int .u64 0]) hb72 (by kernel_rfl) #[.int .u8 0, .int .u64 0, .int .u64 0] (by kernel_rfl) ?_
   intro w69 hb70 hc71
   have hz74 := hc71.size
   have hC73 := hC64.step1 hc71 (by omega)
   refine WR.batch 1 [(8, pt g22 0), (9, .int .i64 2)] (by kernel_rfl) ?_
   refine WR.fin (by kernel_rfl) ?_
   refine go hK68 ?_
   refine CW.ret ?_
   exact retC [.agg #[.int .u8 0, .int .u64 0, .int .u64 0], .int .i64 2] _ rfl ⟨resCell hb70 rfl (by kernel_rfl), rfl, trivial⟩ (⟨hC73, (congrArg (fun r : (TKnown × Int) => (.tuple #[TKnown.v r.1, .int .i64 r.2] : Value)) hs67).symm⟩)
  have hs75 := ifF ht66 hs
  replace ht66 : (((¬ (a0 < (1 : Int))) ∧ (¬ (a0 > (13 : Int)))) ∧ ((kind_Right a2) = true)) ∧ ((kind_Right a3) = true) := ⟨⟨⟨(of_decide_eq_false (bOrF (bOrF (bOrF ht66).1).1).1), (of_decide_eq_false (bOrF (bOrF (bOrF ht66).1).1).2)⟩, (bNotF (bOrF (bOrF ht66).1).2)⟩, (bNotF (bOrF ht66).2)⟩
  refine CW.seq fun K76 hK76 => ?_
  refine CW.region ?_
  refine WR.batch 3 [(0, .int .u8 a0), (1, .bool a1), (6, pt g2 0), (7, pt g12 0), (8, pt g22 0), (36, .bool (a0 != (12 : Int)))] (by kernel_rfl) ?_
  refine WR.mergeW 7 [(0, .int .u8 a0), (1, .bool a1), (6, pt g2 0), (7, pt g12 0), (8, pt g22 0), (40, .bool ((a0 != (12 : Int)) && (a2.Kind == (0 : Int))))] (fun w' => Chg [] w62 w') (fun Q' => ?_) ?_
  ·
   cases hg77 : (a0 != (12 : Int))
   ·
    have hk79 := hg77
    replace hg77 : a0 = (12 : Int) := (bNeF hg77)
    intro hM78
    refine WR.batch 4 [(0, .int .u8 a0), (1, .bool a1), (6, pt g2 0), (7, pt g12 0), (8, pt g22 0), (40, .bool false)] (by kernel_rfl) ?_
    exact WR.keep [0, 1, 6, 7, 8, 40] (by kernel_rfl) (hM78 _ (Chg.refl [] w62))
   ·
    have hk80 := hg77
    replace hg77 : a0 ≠ (12 : Int) := (bNeT hg77)
    intro hM78
    refine WR.batch 1 [(0, .int .u8 a0), (1, .bool a1), (6, pt g2 0), (7, pt g12 0), (8, pt g22 0), (36, .bool true), (37, pt g2 0)] (by kernel_rfl) ?_
    have hb81 := (((hb5.pure hc17).pure hc27).pure hc50).pure hc63
    refine WR.load (dst := some 38) (t := 54) (o := 0) hb81 (by kernel_rfl) (.int .u8 a2.Kind) (by kernel_rfl) ?_
    refine WR.batch 2 [(0, .int .u8 a0), (1, .bool a1), (6, pt g2 0), (7, pt g12 0), (8, pt g22 0), (40, .bool (a2.Kind == (0 : Int)))] (by kernel_rfl) ?_
    exact WR.keep [0, 1, 6, 7, 8, 40] (by kernel_rfl) (hM78 _ (Chg.refl [] w62))
  intro w82 hc83
  have hz85 := hc83.size
  have hC84 := hC64.pure hc83
  refine WR.batch 1 [(0, .int .u8 a0), (1, .bool a1), (6, pt g2 0), (7, pt g12 0), (8, pt g22 0), (41, .bool ((a0 != (12 : Int)) && (a2.Kind == (0 : Int))))] (by kernel_rfl) ?_
  refine WR.mergeW 16 [(0, .int .u8 a0), (1, .bool a1), (6, pt g2 0), (7, pt g12 0), (8, pt g22 0), (49, .bool (((a0 != (12 : Int)) && (a2.Kind == (0 : Int))) || ((a0 != (13 : Int)) && (a3.Kind == (0 : Int)))))] (fun w' => Chg [] w82 w') (fun Q' => ?_) ?_
  ·
   cases hg86 : ((a0 != (12 : Int)) && (a2.Kind == (0 : Int)))
   ·
    have hk88 := hg86
    replace hg86 : (a0 = (12 : Int)) ∨ (a2.Kind ≠ (0 : Int)) := (orMap (bAndF hg86) (fun h => (bNeF h)) (fun h => (bEqF h)))
    intro hM87
    refine WR.batch 3 [(0, .int .u8 a0), (1, .bool a1), (6, pt g2 0), (7, pt g12 0), (8, pt g22 0), (41, .bool false), (44, .bool (a0 != (13 : Int)))] (by kernel_rfl) ?_
    refine WR.mergeW 15 [(0, .int .u8 a0), (1, .bool a1), (6, pt g2 0), (7, pt g12 0), (8, pt g22 0), (41, .bool false), (48, .bool ((a0 != (13 : Int)) && (a3.Kind == (0 : Int))))] (fun w' => Chg [] w82 w') (fun Q' => ?_) ?_
    ·
     cases hg89 : (a0 != (13 : Int))
     ·
      have hk91 := hg89
      replace hg89 : a0 = (13 : Int) := (bNeF hg89)
      intro hM90
      refine WR.batch 4 [(0, .int .u8 a0), (1, .bool a1), (6, pt g2 0), (7, pt g12 0), (8, pt g22 0), (41, .bool false), (48, .bool false)] (by kernel_rfl) ?_
      exact WR.keep [0, 1, 6, 7, 8, 41, 48] (by kernel_rfl) (hM90 _ (Chg.refl [] w82))
     ·
      have hk92 := hg89
      replace hg89 : a0 ≠ (13 : Int) := (bNeT hg89)
      intro hM90
      refine WR.batch 1 [(0, .int .u8 a0), (1, .bool a1), (6, pt g2 0), (7, pt g12 0), (8, pt g22 0), (41, .bool false), (44, .bool true), (45, pt g12 0)] (by kernel_rfl) ?_
      have hb93 := (((hb15.pure hc27).pure hc50).pure hc63).pure hc83
      refine WR.load (dst := some 46) (t := 54) (o := 0) hb93 (by kernel_rfl) (.int .u8 a3.Kind) (by kernel_rfl) ?_
      refine WR.batch 2 [(0, .int .u8 a0), (1, .bool a1), (6, pt g2 0), (7, pt g12 0), (8, pt g22 0), (41, .bool false), (48, .bool (a3.Kind == (0 : Int)))] (by kernel_rfl) ?_
      exact WR.keep [0, 1, 6, 7, 8, 41, 48] (by kernel_rfl) (hM90 _ (Chg.refl [] w82))
    intro w94 hc95
    have hz97 := hc95.size
    have hC96 := hC84.pure hc95
    refine WR.batch 1 [(0, .int .u8 a0), (1, .bool a1), (6, pt g2 0), (7, pt g12 0), (8, pt g22 0), (49, .bool ((a0 != (13 : Int)) && (a3.Kind == (0 : Int))))] (by kernel_rfl) ?_
    exact WR.keep [0, 1, 6, 7, 8, 49] (by kernel_rfl) (hM87 _ ((Chg.refl [] w82).pure hc95))
   ·
    have hk98 := hg86
    replace hg86 : (a0 ≠ (12 : Int)) ∧ (a2.Kind = (0 : Int)) := ⟨(bNeT (bAndT hg86).1), (bEqT (bAndT hg86).2)⟩
    intro hM87
    refine WR.batch 8 [(0, .int .u8 a0), (1, .bool a1), (6, pt g2 0), (7, pt g12 0), (8, pt g22 0), (49, .bool true)] (by kernel_rfl) ?_
    exact WR.keep [0, 1, 6, 7, 8, 49] (by kernel_rfl) (hM87 _ (Chg.refl [] w82))
  intro w99 hc100
  have hz102 := hc100.size
  have hC101 := hC84.pure hc100
  refine WR.batch 1 [(0, .int .u8 a0), (1, .bool a1), (6, pt g2 0), (7, pt g12 0), (8, pt g22 0), (33, .bool (((a0 != (12 : Int)) && (a2.Kind == (0 : Int))) || ((a0 != (13 : Int)) && (a3.Kind == (0 : Int)))))] (by kernel_rfl) ?_
  refine WR.fin (by kernel_rfl) ?_
  refine go hK76 ?_
  refine CW.cond ((((a0 != (12 : Int)) && (a2.Kind == (0 : Int))) || ((a0 != (13 : Int)) && (a3.Kind == (0 : Int))))) (by kernel_rfl) (fun ht103 => ?_) (fun ht103 => ?_)
  ·
   have hs104 := ifT ht103 hs75
   replace ht103 : ((a0 ≠ (12 : Int)) ∧ (a2.Kind = (0 : Int))) ∨ ((a0 ≠ (13 : Int)) ∧ (a3.Kind = (0 : Int))) := (orMap (bOrT ht103) (fun h => ⟨(bNeT (bAndT h).1), (bEqT (bAndT h).2)⟩) (fun h => ⟨(bNeT (bAndT h).1), (bEqT (bAndT h).2)⟩))
   refine CW.seq fun K105 hK105 => ?_
   refine CW.region ?_
   refine WR.batch 1 [(8, pt g22 0), (50, .agg #[.int .u8 0, .int .u64 0, .int .u64 0])] (by kernel_rfl) ?_
   have hb109 := (((hb25.pure hc50).pure hc63).pure hc83).pure hc100
   refine WR.store (t := 56) (o := 0) (v := .agg #[.int .u8 0, .int .u64 0, .int .u64 0]) hb109 (by kernel_rfl) #[.int .u8 0, .int .u64 0, .int .u64 0] (by kernel_rfl) ?_
   intro w106 hb107 hc108
   have hz111 := hc108.size
   have hC110 := hC101.step1 hc108 (by omega)
   refine WR.batch 1 [(8, pt g22 0), (9, .int .i64 110)] (by kernel_rfl) ?_
   refine WR.fin (by kernel_rfl) ?_
   refine go hK105 ?_
   refine CW.ret ?_
   exact retC [.agg #[.int .u8 0, .int .u64 0, .int .u64 0], .int .i64 110] _ rfl ⟨resCell hb107 rfl (by kernel_rfl), rfl, trivial⟩ (⟨hC110, (congrArg (fun r : (TKnown × Int) => (.tuple #[TKnown.v r.1, .int .i64 r.2] : Value)) hs104).symm⟩)
  have hs112 := ifF ht103 hs75
  replace ht103 : ((a0 = (12 : Int)) ∨ (a2.Kind ≠ (0 : Int))) ∧ ((a0 = (13 : Int)) ∨ (a3.Kind ≠ (0 : Int))) := ⟨(orMap (bAndF (bOrF ht103).1) (fun h => (bNeF h)) (fun h => (bEqF h))), (orMap (bAndF (bOrF ht103).2) (fun h => (bNeF h)) (fun h => (bEqF h)))⟩
  refine CW.seq fun K113 hK113 => ?_
  refine CW.region ?_
  refine WR.batch 3 [(0, .int .u8 a0), (1, .bool a1), (6, pt g2 0), (7, pt g12 0), (8, pt g22 0), (54, .bool (a0 == (12 : Int)))] (by kernel_rfl) ?_
  refine WR.batch 3 [(0, .int .u8 a0), (1, .bool a1), (6, pt g2 0), (7, pt g12 0), (8, pt g22 0), (57, .bool ((a0 == (12 : Int)) && (!a1)))] (by generalize (a0 == (12 : Int)) = b; cases b <;> kernel_rfl) ?_
  refine WR.batch 1 [(0, .int .u8 a0), (1, .bool a1), (6, pt g2 0), (7, pt g12 0), (8, pt g22 0), (51, .bool ((a0 == (12 : Int)) && (!a1)))] (by kernel_rfl) ?_
  refine WR.fin (by kernel_rfl) ?_
  refine go hK113 ?_
  refine CW.cond (((a0 == (12 : Int)) && (!a1))) (by kernel_rfl) (fun ht114 => ?_) (fun ht114 => ?_)
  ·
   have hs115 := ifT ht114 hs112
   replace ht114 : (a0 = (12 : Int)) ∧ (a1 = false) := ⟨(bEqT (bAndT ht114).1), (bNotT (bAndT ht114).2)⟩
   refine CW.seq fun K116 hK116 => ?_
   refine CW.region ?_
   have hb117 := ((((hb15.pure hc27).pure hc50).pure hc63).pure hc83).pure hc100
   refine WR.load (dst := some 58) (t := 56) (o := 0) hb117 (by kernel_rfl) (.agg #[.int .u8 a3.Kind, .int .u64 a3.In.Lo, .int .u64 a3.In.Hi]) (by kernel_rfl) ?_
   have hb121 := (((hb25.pure hc50).pure hc63).pure hc83).pure hc100
   refine WR.store (t := 56) (o := 0) (v := .agg #[.int .u8 a3.Kind, .int .u64 a3.In.Lo, .int .u64 a3.In.Hi]) hb121 (by kernel_rfl) #[.int .u8 a3.Kind, .int .u64 a3.In.Lo, .int .u64 a3.In.Hi] (by kernel_rfl) ?_
   intro w118 hb119 hc120
   have hz123 := hc120.size
   have hC122 := hC101.step1 hc120 (by omega)
   refine WR.batch 1 [(8, pt g22 0), (9, .int .i64 0)] (by kernel_rfl) ?_
   refine WR.fin (by kernel_rfl) ?_
   refine go hK116 ?_
   refine CW.ret ?_
   exact retC [.agg #[.int .u8 a3.Kind, .int .u64 a3.In.Lo, .int .u64 a3.In.Hi], .int .i64 0] _ rfl ⟨resCell hb119 rfl (by kernel_rfl), rfl, trivial⟩ (⟨hC122, (congrArg (fun r : (TKnown × Int) => (.tuple #[TKnown.v r.1, .int .i64 r.2] : Value)) hs115).symm⟩)
  have hs124 := ifF ht114 hs112
  replace ht114 : (a0 ≠ (12 : Int)) ∨ (a1 = true) := (orMap (bAndF ht114) (fun h => (bEqF h)) (fun h => (bNotF h)))
  refine CW.seq fun K125 hK125 => ?_
  refine CW.region ?_
  refine WR.batch 3 [(0, .int .u8 a0), (1, .bool a1), (6, pt g2 0), (7, pt g12 0), (8, pt g22 0), (59, .bool (a0 == (12 : Int)))] (by kernel_rfl) ?_
  refine WR.fin (by kernel_rfl) ?_
  refine go hK125 ?_
  refine CW.cond ((a0 == (12 : Int))) (by kernel_rfl) (fun ht126 => ?_) (fun ht126 => ?_)
  ·
   have hs127 := ifT ht126 hs124
   replace ht126 : a0 = (12 : Int) := (bEqT ht126)
   refine CW.region ?_
   have hb128 := ((((hb15.pure hc27).pure hc50).pure hc63).pure hc83).pure hc100
   refine WR.load (dst := some 62) (t := 56) (o := 0) hb128 (by kernel_rfl) (.agg #[.int .u8 a3.Kind, .int .u64 a3.In.Lo, .int .u64 a3.In.Hi]) (by kernel_rfl) ?_
   have hb132 := (((((hb5.pure hc17).pure hc27).pure hc50).pure hc63).pure hc83).pure hc100
   refine WR.store (t := 56) (o := 0) (v := .agg #[.int .u8 a3.Kind, .int .u64 a3.In.Lo, .int .u64 a3.In.Hi]) hb132 (by kernel_rfl) #[.int .u8 a3.Kind, .int .u64 a3.In.Lo, .int .u64 a3.In.Hi] (by kernel_rfl) ?_
   intro w129 hb130 hc131
   have hz134 := hc131.size
   have hC133 := hC101.step1 hc131 (by omega)
   refine WR.fin (by kernel_rfl) ?_
   have hb135 := hb128.chg1 hc131 (by omega)
   have hb136 := ((((hb25.pure hc50).pure hc63).pure hc83).pure hc100).chg1 hc131 (by omega)
   exact fun _ ha => ⟨_, ha.keep [0, 1, 6, 7, 8] (F' := [(0, .int .u8 a0), (1, .bool a1), (6, pt g2 0), (7, pt g12 0), (8, pt g22 0)]) (by kernel_rfl), a3.Kind, a3.In.Lo, a3.In.Hi, a3.Kind, a3.In.Lo, a3.In.Hi, rfl, hC133, hb130, hb135, hb136, (by omega), (by omega), (by omega), (by omega), (by omega), (by omega), hs127⟩
  have hs137 := ifF ht126 hs124
  replace ht126 : a0 ≠ (12 : Int) := (bEqF ht126)
  refine CW.seq fun K138 hK138 => ?_
  refine CW.region ?_
  refine WR.batch 3 [(0, .int .u8 a0), (1, .bool a1), (6, pt g2 0), (7, pt g12 0), (8, pt g22 0), (63, .bool (a0 == (13 : Int)))] (by kernel_rfl) ?_
  refine WR.fin (by kernel_rfl) ?_
  refine go hK138 ?_
  refine CW.cond ((a0 == (13 : Int))) (by kernel_rfl) (fun ht139 => ?_) (fun ht139 => ?_)
  ·
   have hs140 := ifT ht139 hs137
   replace ht139 : a0 = (13 : Int) := (bEqT ht139)
   refine CW.region ?_
   have hb141 := (((((hb5.pure hc17).pure hc27).pure hc50).pure hc63).pure hc83).pure hc100
   refine WR.load (dst := some 66) (t := 56) (o := 0) hb141 (by kernel_rfl) (.agg #[.int .u8 a2.Kind, .int .u64 a2.In.Lo, .int .u64 a2.In.Hi]) (by kernel_rfl) ?_
   have hb145 := ((((hb15.pure hc27).pure hc50).pure hc63).pure hc83).pure hc100
   refine WR.store (t := 56) (o := 0) (v := .agg #[.int .u8 a2.Kind, .int .u64 a2.In.Lo, .int .u64 a2.In.Hi]) hb145 (by kernel_rfl) #[.int .u8 a2.Kind, .int .u64 a2.In.Lo, .int .u64 a2.In.Hi] (by kernel_rfl) ?_
   intro w142 hb143 hc144
   have hz147 := hc144.size
   have hC146 := hC101.step1 hc144 (by omega)
   refine WR.fin (by kernel_rfl) ?_
   have hb148 := hb141.chg1 hc144 (by omega)
   have hb149 := ((((hb25.pure hc50).pure hc63).pure hc83).pure hc100).chg1 hc144 (by omega)
   exact fun _ ha => ⟨_, ha.keep [0, 1, 6, 7, 8] (F' := [(0, .int .u8 a0), (1, .bool a1), (6, pt g2 0), (7, pt g12 0), (8, pt g22 0)]) (by kernel_rfl), a2.Kind, a2.In.Lo, a2.In.Hi, a2.Kind, a2.In.Lo, a2.In.Hi, rfl, hC146, hb148, hb143, hb149, (by omega), (by omega), (by omega), (by omega), (by omega), (by omega), hs140⟩
  have hs150 := ifF ht139 hs137
  replace ht139 : a0 ≠ (13 : Int) := (bEqF ht139)
  refine CW.skip ?_
  have hb151 := (((((hb5.pure hc17).pure hc27).pure hc50).pure hc63).pure hc83).pure hc100
  have hb152 := ((((hb15.pure hc27).pure hc50).pure hc63).pure hc83).pure hc100
  have hb153 := (((hb25.pure hc50).pure hc63).pure hc83).pure hc100
  exact fun _ ha => ⟨_, ha.keep [0, 1, 6, 7, 8] (F' := [(0, .int .u8 a0), (1, .bool a1), (6, pt g2 0), (7, pt g12 0), (8, pt g22 0)]) (by kernel_rfl), a2.Kind, a2.In.Lo, a2.In.Hi, a3.Kind, a3.In.Lo, a3.In.Hi, rfl, hC101, hb151, hb152, hb153, (by omega), (by omega), (by omega), (by omega), (by omega), (by omega), hs150⟩
 rintro _ w35 ⟨v100, v101, v102, v103, v104, v105, rfl, hC33, hb36, hb37, hb38, hr_v100, hr_v101, hr_v102, hr_v103, hr_v104, hr_v105, hsj34⟩
 have hz154 := hC33.size
 have hs155 := hsj34.trans (kind_Do_J0.eq_1 _ _ _ _ _ _ _ _ _ _)
 have hg156 := hb36.lt
 have hg157 := hb37.lt
 have hg158 := hb38.lt
 refine CW.seq fun K159 hK159 => ?_
 refine CW.region ?_
 refine WR.load (dst := some 68) (t := 56) (o := 0) hb36 (by kernel_rfl) (.agg #[.int .u8 v100, .int .u64 v101, .int .u64 v102]) (by kernel_rfl) ?_
 obtain ⟨x160, hx161⟩ : ∃ x, kind_number (⟨v100, (⟨v101, v102⟩ : TSpan)⟩ : TKnown) = x := ⟨_, rfl⟩
 have hs163 := letS hx161 hs155
 have hx162 : IU64 x160.1.Lo ∧ IU64 x160.1.Hi := by rw [← hx161]; exact kind_number_ok (⟨v100, (⟨v101, v102⟩ : TSpan)⟩ : TKnown) (show IU8 v100 ∧ IU64 v101 ∧ IU64 v102 from ⟨(by omega), (by omega), (by omega)⟩) 
 refine WR.call (dst := some 69) (by kernel_rfl) (retE (g := (fun r : (TSpan × Bool) => (.tuple #[TSpan.v r.1, .bool r.2] : Value))) hx161 (kind_number_any (⟨v100, (⟨v101, v102⟩ : TSpan)⟩ : TKnown) w35  (show IU8 v100 ∧ IU64 v101 ∧ IU64 v102 from ⟨(by omega), (by omega), (by omega)⟩) )) ?_
 rintro _ w164 hc165 rfl
 have hz167 := hc165.size
 have hC166 := hC33.pure hc165
 refine WR.batch 3 [(0, .int .u8 a0), (1, .bool a1), (6, pt g2 0), (7, pt g12 0), (8, pt g22 0), (70, .agg #[.int .u64 x160.1.Lo, .int .u64 x160.1.Hi]), (71, .bool x160.2)] (by kernel_rfl) ?_
 refine WR.alloc (dst := some 10) (e := 25) (by kernel_rfl) #[.int .u64 0, .int .u64 0] (by kernel_rfl) ?_
 intro g168 w169 hN170
 have hf172 : w.heap.size ≤ g168 := Nat.le_trans hC166.size hN170.fresh
 have hfr174 := hN170.fresh
 have hc173 := hN170.chg
 have hz176 := hc173.size
 have hC175 := hC166.pure hc173
 have hb171 := hN170.blk
 have hg177 := hb171.lt
 refine WR.store (t := 25) (o := 0) (v := .agg #[.int .u64 x160.1.Lo, .int .u64 x160.1.Hi]) hb171 (by kernel_rfl) #[.int .u64 x160.1.Lo, .int .u64 x160.1.Hi] (by kernel_rfl) ?_
 intro w178 hb179 hc180
 have hz182 := hc180.size
 have hC181 := hC175.step1 hc180 (by omega)
 refine WR.batch 1 [(0, .int .u8 a0), (1, .bool a1), (6, pt g2 0), (7, pt g12 0), (8, pt g22 0), (10, pt g168 0), (11, .bool x160.2)] (by kernel_rfl) ?_
 refine WR.fin (by kernel_rfl) ?_
 refine go hK159 ?_
 refine CW.seq fun K183 hK183 => ?_
 refine CW.region ?_
 have hb184 := ((hb37.pure hc165).pure hc173).chg1 hc180 (by omega)
 refine WR.load (dst := some 73) (t := 56) (o := 0) hb184 (by kernel_rfl) (.agg #[.int .u8 v103, .int .u64 v104, .int .u64 v105]) (by kernel_rfl) ?_
 obtain ⟨x185, hx186⟩ : ∃ x, kind_number (⟨v103, (⟨v104, v105⟩ : TSpan)⟩ : TKnown) = x := ⟨_, rfl⟩
 have hs188 := letS hx186 hs163
 have hx187 : IU64 x185.1.Lo ∧ IU64 x185.1.Hi := by rw [← hx186]; exact kind_number_ok (⟨v103, (⟨v104, v105⟩ : TSpan)⟩ : TKnown) (show IU8 v103 ∧ IU64 v104 ∧ IU64 v105 from ⟨(by omega), (by omega), (by omega)⟩) 
 refine WR.call (dst := some 74) (by kernel_rfl) (retE (g := (fun r : (TSpan × Bool) => (.tuple #[TSpan.v r.1, .bool r.2] : Value))) hx186 (kind_number_any (⟨v103, (⟨v104, v105⟩ : TSpan)⟩ : TKnown) w178  (show IU8 v103 ∧ IU64 v104 ∧ IU64 v105 from ⟨(by omega), (by omega), (by omega)⟩) )) ?_
 rintro _ w189 hc190 rfl
 have hz192 := hc190.size
 have hC191 := hC181.pure hc190
 refine WR.batch 3 [(0, .int .u8 a0), (1, .bool a1), (6, pt g2 0), (8, pt g22 0), (10, pt g168 0), (11, .bool x160.2), (75, .agg #[.int .u64 x185.1.Lo, .int .u64 x185.1.Hi]), (76, .bool x185.2)] (by kernel_rfl) ?_
 refine WR.alloc (dst := some 12) (e := 25) (by kernel_rfl) #[.int .u64 0, .int .u64 0] (by kernel_rfl) ?_
 intro g193 w194 hN195
 have hf197 : w.heap.size ≤ g193 := Nat.le_trans hC191.size hN195.fresh
 have hfr199 := hN195.fresh
 have hc198 := hN195.chg
 have hz201 := hc198.size
 have hC200 := hC191.pure hc198
 have hb196 := hN195.blk
 have hg202 := hb196.lt
 refine WR.store (t := 25) (o := 0) (v := .agg #[.int .u64 x185.1.Lo, .int .u64 x185.1.Hi]) hb196 (by kernel_rfl) #[.int .u64 x185.1.Lo, .int .u64 x185.1.Hi] (by kernel_rfl) ?_
 intro w203 hb204 hc205
 have hz207 := hc205.size
 have hC206 := hC200.step1 hc205 (by omega)
 refine WR.batch 1 [(0, .int .u8 a0), (1, .bool a1), (6, pt g2 0), (8, pt g22 0), (10, pt g168 0), (11, .bool x160.2), (12, pt g193 0), (13, .bool x185.2)] (by kernel_rfl) ?_
 refine WR.fin (by kernel_rfl) ?_
 refine go hK183 ?_
 refine CW.seq fun K208 hK208 => ?_
 refine CW.region ?_
 refine WR.batch 3 [(0, .int .u8 a0), (1, .bool a1), (6, pt g2 0), (8, pt g22 0), (10, pt g168 0), (11, .bool x160.2), (12, pt g193 0), (13, .bool x185.2), (79, .bool (a0 == (1 : Int)))] (by kernel_rfl) ?_
 refine WR.batch 3 [(0, .int .u8 a0), (1, .bool a1), (6, pt g2 0), (8, pt g22 0), (10, pt g168 0), (11, .bool x160.2), (12, pt g193 0), (13, .bool x185.2), (82, .bool ((a0 == (1 : Int)) || (a0 == (2 : Int))))] (by generalize (a0 == (1 : Int)) = b; cases b <;> kernel_rfl) ?_
 refine WR.batch 1 [(0, .int .u8 a0), (1, .bool a1), (6, pt g2 0), (8, pt g22 0), (10, pt g168 0), (11, .bool x160.2), (12, pt g193 0), (13, .bool x185.2), (83, .bool ((a0 == (1 : Int)) || (a0 == (2 : Int))))] (by kernel_rfl) ?_
 refine WR.batch 3 [(0, .int .u8 a0), (1, .bool a1), (6, pt g2 0), (8, pt g22 0), (10, pt g168 0), (11, .bool x160.2), (12, pt g193 0), (13, .bool x185.2), (86, .bool (((a0 == (1 : Int)) || (a0 == (2 : Int))) && (!a1)))] (by generalize ((a0 == (1 : Int)) || (a0 == (2 : Int))) = b; cases b <;> kernel_rfl) ?_
 refine WR.batch 1 [(0, .int .u8 a0), (1, .bool a1), (6, pt g2 0), (8, pt g22 0), (10, pt g168 0), (11, .bool x160.2), (12, pt g193 0), (13, .bool x185.2), (87, .bool (((a0 == (1 : Int)) || (a0 == (2 : Int))) && (!a1)))] (by kernel_rfl) ?_
 refine WR.batch 2 [(0, .int .u8 a0), (1, .bool a1), (6, pt g2 0), (8, pt g22 0), (10, pt g168 0), (11, .bool x160.2), (12, pt g193 0), (13, .bool x185.2), (89, .bool ((((a0 == (1 : Int)) || (a0 == (2 : Int))) && (!a1)) && x185.2))] (by generalize (((a0 == (1 : Int)) || (a0 == (2 : Int))) && (!a1)) = b; cases b <;> kernel_rfl) ?_
 refine WR.batch 1 [(0, .int .u8 a0), (1, .bool a1), (6, pt g2 0), (8, pt g22 0), (10, pt g168 0), (11, .bool x160.2), (12, pt g193 0), (13, .bool x185.2), (14, .bool ((((a0 == (1 : Int)) || (a0 == (2 : Int))) && (!a1)) && x185.2))] (by kernel_rfl) ?_
 refine WR.fin (by kernel_rfl) ?_
 refine go hK208 ?_
 refine CW.seq fun K209 hK209 => ?_
 refine CW.block ?_
 refine CW.seq fun K210 hK210 => ?_
 refine CW.region ?_
 refine WR.batch 2 [(0, .int .u8 a0), (1, .bool a1), (6, pt g2 0), (8, pt g22 0), (10, pt g168 0), (11, .bool x160.2), (12, pt g193 0), (13, .bool x185.2), (14, .bool ((((a0 == (1 : Int)) || (a0 == (2 : Int))) && (!a1)) && x185.2)), (92, .bool x160.2)] (by kernel_rfl) ?_
 refine WR.batch 2 [(0, .int .u8 a0), (1, .bool a1), (6, pt g2 0), (8, pt g22 0), (10, pt g168 0), (11, .bool x160.2), (12, pt g193 0), (13, .bool x185.2), (14, .bool ((((a0 == (1 : Int)) || (a0 == (2 : Int))) && (!a1)) && x185.2)), (94, .bool (x160.2 && x185.2))] (by generalize x160.2 = b; cases b <;> kernel_rfl) ?_
 refine WR.batch 1 [(0, .int .u8 a0), (1, .bool a1), (6, pt g2 0), (8, pt g22 0), (10, pt g168 0), (11, .bool x160.2), (12, pt g193 0), (13, .bool x185.2), (14, .bool ((((a0 == (1 : Int)) || (a0 == (2 : Int))) && (!a1)) && x185.2)), (95, .bool (x160.2 && x185.2))] (by kernel_rfl) ?_
 refine WR.mergeW 12 [(0, .int .u8 a0), (1, .bool a1), (6, pt g2 0), (8, pt g22 0), (10, pt g168 0), (11, .bool x160.2), (12, pt g193 0), (13, .bool x185.2), (14, .bool ((((a0 == (1 : Int)) || (a0 == (2 : Int))) && (!a1)) && x185.2)), (102, .bool ((x160.2 && x185.2) && ((a0 == (4 : Int)) || (a0 == (5 : Int)))))] (fun w' => Chg [] w203 w') (fun Q' => ?_) ?_
 ·
  cases hg211 : (x160.2 && x185.2)
  ·
   have hk213 := hg211
   replace hg211 : (x160.2 = false) ∨ (x185.2 = false) := (orMap (bAndF hg211) (fun h => h) (fun h => h))
   intro hM212
   refine WR.batch 7 [(0, .int .u8 a0), (1, .bool a1), (6, pt g2 0), (8, pt g22 0), (10, pt g168 0), (11, .bool x160.2), (12, pt g193 0), (13, .bool x185.2), (14, .bool ((((a0 == (1 : Int)) || (a0 == (2 : Int))) && (!a1)) && x185.2)), (102, .bool false)] (by kernel_rfl) ?_
   exact WR.keep [0, 1, 6, 8, 10, 11, 12, 13, 14, 102] (by kernel_rfl) (hM212 _ (Chg.refl [] w203))
  ·
   have hk214 := hg211
   replace hg211 : (x160.2 = true) ∧ (x185.2 = true) := ⟨(bAndT hg211).1, (bAndT hg211).2⟩
   intro hM212
   refine WR.batch 3 [(0, .int .u8 a0), (1, .bool a1), (6, pt g2 0), (8, pt g22 0), (10, pt g168 0), (11, .bool x160.2), (12, pt g193 0), (13, .bool x185.2), (14, .bool ((((a0 == (1 : Int)) || (a0 == (2 : Int))) && (!a1)) && x185.2)), (95, .bool true), (98, .bool (a0 == (4 : Int)))] (by kernel_rfl) ?_
   refine WR.batch 3 [(0, .int .u8 a0), (1, .bool a1), (6, pt g2 0), (8, pt g22 0), (10, pt g168 0), (11, .bool x160.2), (12, pt g193 0), (13, .bool x185.2), (14, .bool ((((a0 == (1 : Int)) || (a0 == (2 : Int))) && (!a1)) && x185.2)), (95, .bool true), (101, .bool ((a0 == (4 : Int)) || (a0 == (5 : Int))))] (by generalize (a0 == (4 : Int)) = b; cases b <;> kernel_rfl) ?_
   refine WR.batch 1 [(0, .int .u8 a0), (1, .bool a1), (6, pt g2 0), (8, pt g22 0), (10, pt g168 0), (11, .bool x160.2), (12, pt g193 0), (13, .bool x185.2), (14, .bool ((((a0 == (1 : Int)) || (a0 == (2 : Int))) && (!a1)) && x185.2)), (102, .bool ((a0 == (4 : Int)) || (a0 == (5 : Int))))] (by kernel_rfl) ?_
   exact WR.keep [0, 1, 6, 8, 10, 11, 12, 13, 14, 102] (by kernel_rfl) (hM212 _ (Chg.refl [] w203))
 intro w215 hc216
 have hz218 := hc216.size
 have hC217 := hC206.pure hc216
 refine WR.batch 1 [(0, .int .u8 a0), (1, .bool a1), (6, pt g2 0), (8, pt g22 0), (10, pt g168 0), (11, .bool x160.2), (12, pt g193 0), (13, .bool x185.2), (14, .bool ((((a0 == (1 : Int)) || (a0 == (2 : Int))) && (!a1)) && x185.2)), (103, .bool ((x160.2 && x185.2) && ((a0 == (4 : Int)) || (a0 == (5 : Int)))))] (by kernel_rfl) ?_
 refine WR.mergeW 17 [(0, .int .u8 a0), (1, .bool a1), (6, pt g2 0), (8, pt g22 0), (10, pt g168 0), (11, .bool x160.2), (12, pt g193 0), (13, .bool x185.2), (14, .bool ((((a0 == (1 : Int)) || (a0 == (2 : Int))) && (!a1)) && x185.2)), (107, .bool (((x160.2 && x185.2) && ((a0 == (4 : Int)) || (a0 == (5 : Int)))) && (kind_nought x185.1 a1)))] (fun w' => Chg [] w215 w') (fun Q' => ?_) ?_
 ·
  cases hg219 : ((x160.2 && x185.2) && ((a0 == (4 : Int)) || (a0 == (5 : Int))))
  ·
   have hk221 := hg219
   replace hg219 : ((x160.2 = false) ∨ (x185.2 = false)) ∨ ((a0 ≠ (4 : Int)) ∧ (a0 ≠ (5 : Int))) := (orMap (bAndF hg219) (fun h => (orMap (bAndF h) (fun h => h) (fun h => h))) (fun h => ⟨(bEqF (bOrF h).1), (bEqF (bOrF h).2)⟩))
   intro hM220
   refine WR.batch 4 [(0, .int .u8 a0), (1, .bool a1), (6, pt g2 0), (8, pt g22 0), (10, pt g168 0), (11, .bool x160.2), (12, pt g193 0), (13, .bool x185.2), (14, .bool ((((a0 == (1 : Int)) || (a0 == (2 : Int))) && (!a1)) && x185.2)), (107, .bool false)] (by kernel_rfl) ?_
   exact WR.keep [0, 1, 6, 8, 10, 11, 12, 13, 14, 107] (by kernel_rfl) (hM220 _ (Chg.refl [] w215))
  ·
   have hk222 := hg219
   replace hg219 : ((x160.2 = true) ∧ (x185.2 = true)) ∧ ((a0 = (4 : Int)) ∨ (a0 = (5 : Int))) := ⟨⟨(bAndT (bAndT hg219).1).1, (bAndT (bAndT hg219).1).2⟩, (orMap (bOrT (bAndT hg219).2) (fun h => (bEqT h)) (fun h => (bEqT h)))⟩
   intro hM220
   have hb223 := hb204.pure hc216
   refine WR.load (dst := some 104) (t := 25) (o := 0) hb223 (by kernel_rfl) (.agg #[.int .u64 x185.1.Lo, .int .u64 x185.1.Hi]) (by kernel_rfl) ?_
   refine WR.batch 1 [(0, .int .u8 a0), (1, .bool a1), (6, pt g2 0), (8, pt g22 0), (10, pt g168 0), (11, .bool x160.2), (12, pt g193 0), (13, .bool x185.2), (14, .bool ((((a0 == (1 : Int)) || (a0 == (2 : Int))) && (!a1)) && x185.2)), (103, .bool true), (104, .agg #[.int .u64 x185.1.Lo, .int .u64 x185.1.Hi]), (105, .bool a1)] (by kernel_rfl) ?_
   refine WR.call (dst := some 106) (by kernel_rfl) (kind_nought_any x185.1 a1 w215  ⟨(by omega), (by omega)⟩ ) ?_
   rintro _ w224 hc225 rfl
   have hz227 := hc225.size
   have hC226 := hC217.pure hc225
   refine WR.batch 1 [(0, .int .u8 a0), (1, .bool a1), (6, pt g2 0), (8, pt g22 0), (10, pt g168 0), (11, .bool x160.2), (12, pt g193 0), (13, .bool x185.2), (14, .bool ((((a0 == (1 : Int)) || (a0 == (2 : Int))) && (!a1)) && x185.2)), (107, .bool (kind_nought x185.1 a1))] (by kernel_rfl) ?_
   exact WR.keep [0, 1, 6, 8, 10, 11, 12, 13, 14, 107] (by kernel_rfl) (hM220 _ ((Chg.refl [] w215).pure hc225))
 intro w228 hc229
 have hz231 := hc229.size
 have hC230 := hC217.pure hc229
 refine WR.batch 1 [(0, .int .u8 a0), (1, .bool a1), (6, pt g2 0), (8, pt g22 0), (10, pt g168 0), (11, .bool x160.2), (12, pt g193 0), (13, .bool x185.2), (14, .bool ((((a0 == (1 : Int)) || (a0 == (2 : Int))) && (!a1)) && x185.2)), (90, .bool (((x160.2 && x185.2) && ((a0 == (4 : Int)) || (a0 == (5 : Int)))) && (kind_nought x185.1 a1)))] (by kernel_rfl) ?_
 refine WR.fin (by kernel_rfl) ?_
 refine go hK210 ?_
 refine CW.cond ((((x160.2 && x185.2) && ((a0 == (4 : Int)) || (a0 == (5 : Int)))) && (kind_nought x185.1 a1))) (by kernel_rfl) (fun ht232 => ?_) (fun ht232 => ?_)
 ·
  have hs233 := ifT ht232 hs188
  replace ht232 : (((x160.2 = true) ∧ (x185.2 = true)) ∧ ((a0 = (4 : Int)) ∨ (a0 = (5 : Int)))) ∧ ((kind_nought x185.1 a1) = true) := ⟨⟨⟨(bAndT (bAndT (bAndT ht232).1).1).1, (bAndT (bAndT (bAndT ht232).1).1).2⟩, (orMap (bOrT (bAndT (bAndT ht232).1).2) (fun h => (bEqT h)) (fun h => (bEqT h)))⟩, (bAndT ht232).2⟩
  refine CW.seq fun K234 hK234 => ?_
  refine CW.region ?_
  refine WR.batch 1 [(8, pt g22 0), (108, .agg #[.int .u8 0, .int .u64 0, .int .u64 0])] (by kernel_rfl) ?_
  have hb238 := (((((((hb38.pure hc165).pure hc173).chg1 hc180 (by omega)).pure hc190).pure hc198).chg1 hc205 (by omega)).pure hc216).pure hc229
  refine WR.store (t := 56) (o := 0) (v := .agg #[.int .u8 0, .int .u64 0, .int .u64 0]) hb238 (by kernel_rfl) #[.int .u8 0, .int .u64 0, .int .u64 0] (by kernel_rfl) ?_
  intro w235 hb236 hc237
  have hz240 := hc237.size
  have hC239 := hC230.step1 hc237 (by omega)
  refine WR.batch 1 [(8, pt g22 0), (9, .int .i64 113)] (by kernel_rfl) ?_
  refine WR.fin (by kernel_rfl) ?_
  refine go hK234 ?_
  refine CW.ret ?_
  exact retC [.agg #[.int .u8 0, .int .u64 0, .int .u64 0], .int .i64 113] _ rfl ⟨resCell hb236 rfl (by kernel_rfl), rfl, trivial⟩ (⟨hC239, (congrArg (fun r : (TKnown × Int) => (.tuple #[TKnown.v r.1, .int .i64 r.2] : Value)) hs233).symm⟩)
 have hs241 := ifF ht232 hs188
 replace ht232 : (((x160.2 = false) ∨ (x185.2 = false)) ∨ ((a0 ≠ (4 : Int)) ∧ (a0 ≠ (5 : Int)))) ∨ ((kind_nought x185.1 a1) = false) := (orMap (bAndF ht232) (fun h => (orMap (bAndF h) (fun h => (orMap (bAndF h) (fun h => h) (fun h => h))) (fun h => ⟨(bEqF (bOrF h).1), (bEqF (bOrF h).2)⟩))) (fun h => h))
 refine CW.seq fun K242 hK242 => ?_
 refine CW.region ?_
 refine WR.batch 2 [(0, .int .u8 a0), (1, .bool a1), (6, pt g2 0), (8, pt g22 0), (10, pt g168 0), (12, pt g193 0), (13, .bool x185.2), (14, .bool ((((a0 == (1 : Int)) || (a0 == (2 : Int))) && (!a1)) && x185.2)), (111, .bool x160.2)] (by kernel_rfl) ?_
 refine WR.batch 2 [(0, .int .u8 a0), (1, .bool a1), (6, pt g2 0), (8, pt g22 0), (10, pt g168 0), (12, pt g193 0), (14, .bool ((((a0 == (1 : Int)) || (a0 == (2 : Int))) && (!a1)) && x185.2)), (113, .bool (x160.2 && x185.2))] (by generalize x160.2 = b; cases b <;> kernel_rfl) ?_
 refine WR.batch 1 [(0, .int .u8 a0), (1, .bool a1), (6, pt g2 0), (8, pt g22 0), (10, pt g168 0), (12, pt g193 0), (14, .bool ((((a0 == (1 : Int)) || (a0 == (2 : Int))) && (!a1)) && x185.2)), (109, .bool (x160.2 && x185.2))] (by kernel_rfl) ?_
 refine WR.fin (by kernel_rfl) ?_
 refine go hK242 ?_
 refine CW.cond ((x160.2 && x185.2)) (by kernel_rfl) (fun ht243 => ?_) (fun ht243 => ?_)
 ·
  have hs244 := ifT ht243 hs241
  replace ht243 : (x160.2 = true) ∧ (x185.2 = true) := ⟨(bAndT ht243).1, (bAndT ht243).2⟩
  refine CW.seq fun K245 hK245 => ?_
  refine CW.region ?_
  refine WR.batch 2 [(8, pt g22 0), (10, pt g168 0), (12, pt g193 0), (114, .int .u8 a0), (115, .bool a1)] (by kernel_rfl) ?_
  have hb246 := ((((hb179.pure hc190).pure hc198).chg1 hc205 (by omega)).pure hc216).pure hc229
  refine WR.load (dst := some 116) (t := 25) (o := 0) hb246 (by kernel_rfl) (.agg #[.int .u64 x160.1.Lo, .int .u64 x160.1.Hi]) (by kernel_rfl) ?_
  have hb247 := (hb204.pure hc216).pure hc229
  refine WR.load (dst := some 117) (t := 25) (o := 0) hb247 (by kernel_rfl) (.agg #[.int .u64 x185.1.Lo, .int .u64 x185.1.Hi]) (by kernel_rfl) ?_
  obtain ⟨x248, hx249⟩ : ∃ x, span_Do a0 a1 x160.1 x185.1 = x := ⟨_, rfl⟩
  have hs251 := letS hx249 hs244
  have hx250 : IU64 x248.Lo ∧ IU64 x248.Hi := by rw [← hx249]; exact span_Do_ok a0 a1 x160.1 x185.1 (by omega) ⟨(by omega), (by omega)⟩ ⟨(by omega), (by omega)⟩ 
  refine WR.call (dst := some 118) (by kernel_rfl) (retE (g := TSpan.v) hx249 (span_Do_any a0 a1 x160.1 x185.1 w228  (by omega) ⟨(by omega), (by omega)⟩ ⟨(by omega), (by omega)⟩ )) ?_
  rintro _ w252 hc253 rfl
  have hz255 := hc253.size
  have hC254 := hC230.pure hc253
  refine WR.batch 1 [(8, pt g22 0), (119, .agg #[.int .u8 1, .int .u64 x248.Lo, .int .u64 x248.Hi])] (by kernel_rfl) ?_
  have hb259 := ((((((((hb38.pure hc165).pure hc173).chg1 hc180 (by omega)).pure hc190).pure hc198).chg1 hc205 (by omega)).pure hc216).pure hc229).pure hc253
  refine WR.store (t := 56) (o := 0) (v := .agg #[.int .u8 1, .int .u64 x248.Lo, .int .u64 x248.Hi]) hb259 (by kernel_rfl) #[.int .u8 1, .int .u64 x248.Lo, .int .u64 x248.Hi] (by kernel_rfl) ?_
  intro w256 hb257 hc258
  have hz261 := hc258.size
  have hC260 := hC254.step1 hc258 (by omega)
  refine WR.batch 1 [(8, pt g22 0), (9, .int .i64 0)] (by kernel_rfl) ?_
  refine WR.fin (by kernel_rfl) ?_
  refine go hK245 ?_
  refine CW.ret ?_
  exact retC [.agg #[.int .u8 1, .int .u64 x248.Lo, .int .u64 x248.Hi], .int .i64 0] _ rfl ⟨resCell hb257 rfl (by kernel_rfl), rfl, trivial⟩ (⟨hC260, (congrArg (fun r : (TKnown × Int) => (.tuple #[TKnown.v r.1, .int .i64 r.2] : Value)) hs251).symm⟩)
 have hs262 := ifF ht243 hs241
 replace ht243 : (x160.2 = false) ∨ (x185.2 = false) := (orMap (bAndF ht243) (fun h => h) (fun h => h))
 refine CW.seq fun K263 hK263 => ?_
 refine CW.seq fun K264 hK264 => ?_
 refine CW.region ?_
 refine WR.batch 2 [(0, .int .u8 a0), (6, pt g2 0), (8, pt g22 0), (12, pt g193 0), (14, .bool ((((a0 == (1 : Int)) || (a0 == (2 : Int))) && (!a1)) && x185.2)), (122, .bool ((((a0 == (1 : Int)) || (a0 == (2 : Int))) && (!a1)) && x185.2))] (by kernel_rfl) ?_
 refine WR.mergeW 6 [(0, .int .u8 a0), (6, pt g2 0), (8, pt g22 0), (12, pt g193 0), (14, .bool ((((a0 == (1 : Int)) || (a0 == (2 : Int))) && (!a1)) && x185.2)), (126, .bool (((((a0 == (1 : Int)) || (a0 == (2 : Int))) && (!a1)) && x185.2) && (v100 == (2 : Int))))] (fun w' => Chg [] w228 w') (fun Q' => ?_) ?_
 ·
  cases hg265 : ((((a0 == (1 : Int)) || (a0 == (2 : Int))) && (!a1)) && x185.2)
  ·
   have hk267 := hg265
   replace hg265 : (((a0 ≠ (1 : Int)) ∧ (a0 ≠ (2 : Int))) ∨ (a1 = true)) ∨ (x185.2 = false) := (orMap (bAndF hg265) (fun h => (orMap (bAndF h) (fun h => ⟨(bEqF (bOrF h).1), (bEqF (bOrF h).2)⟩) (fun h => (bNotF h)))) (fun h => h))
   intro hM266
   refine WR.batch 4 [(0, .int .u8 a0), (6, pt g2 0), (8, pt g22 0), (12, pt g193 0), (14, .bool false), (126, .bool false)] (by kernel_rfl) ?_
   exact WR.keep [0, 6, 8, 12, 14, 126] (by kernel_rfl) (hM266 _ (Chg.refl [] w228))
  ·
   have hk268 := hg265
   replace hg265 : (((a0 = (1 : Int)) ∨ (a0 = (2 : Int))) ∧ (a1 = false)) ∧ (x185.2 = true) := ⟨⟨(orMap (bOrT (bAndT (bAndT hg265).1).1) (fun h => (bEqT h)) (fun h => (bEqT h))), (bNotT (bAndT (bAndT hg265).1).2)⟩, (bAndT hg265).2⟩
   intro hM266
   refine WR.batch 1 [(0, .int .u8 a0), (6, pt g2 0), (8, pt g22 0), (12, pt g193 0), (14, .bool true), (122, .bool true), (123, pt g2 0)] (by kernel_rfl) ?_
   have hb269 := (((((((hb36.pure hc165).pure hc173).chg1 hc180 (by omega)).pure hc190).pure hc198).chg1 hc205 (by omega)).pure hc216).pure hc229
   refine WR.load (dst := some 124) (t := 54) (o := 0) hb269 (by kernel_rfl) (.int .u8 v100) (by kernel_rfl) ?_
   refine WR.batch 2 [(0, .int .u8 a0), (6, pt g2 0), (8, pt g22 0), (12, pt g193 0), (14, .bool true), (126, .bool (v100 == (2 : Int)))] (by kernel_rfl) ?_
   exact WR.keep [0, 6, 8, 12, 14, 126] (by kernel_rfl) (hM266 _ (Chg.refl [] w228))
 intro w270 hc271
 have hz273 := hc271.size
 have hC272 := hC230.pure hc271
 refine WR.batch 1 [(0, .int .u8 a0), (6, pt g2 0), (8, pt g22 0), (12, pt g193 0), (14, .bool ((((a0 == (1 : Int)) || (a0 == (2 : Int))) && (!a1)) && x185.2)), (120, .bool (((((a0 == (1 : Int)) || (a0 == (2 : Int))) && (!a1)) && x185.2) && (v100 == (2 : Int))))] (by kernel_rfl) ?_
 refine WR.fin (by kernel_rfl) ?_
 refine go hK264 ?_
 refine CW.join hK263 (fun F' w' => ∃ (v200 : Bool), F' = [(0, .int .u8 a0), (6, pt g2 0), (8, pt g22 0), (12, pt g193 0), (120, .bool v200)] ∧ Chg [] w w' ∧ Blk w' g2 #[.int .u8 v100, .int .u64 v101, .int .u64 v102] 56 ∧ Blk w' g12 #[.int .u8 v103, .int .u64 v104, .int .u64 v105] 56 ∧ Blk w' g22 #[.int .u8 0, .int .u64 0, .int .u64 0] 56 ∧ Blk w' g168 #[.int .u64 x160.1.Lo, .int .u64 x160.1.Hi] 25 ∧ Blk w' g193 #[.int .u64 x185.1.Lo, .int .u64 x185.1.Hi] 25 ∧ (kind_Do a0 a1 a2 a3) = kind_Do_J1 a0 a1 a2 a3 v100 v101 v102 v103 v104 v105 x160 x185 v200) ?_ ?_
 ·
  refine CW.cond ((((((a0 == (1 : Int)) || (a0 == (2 : Int))) && (!a1)) && x185.2) && (v100 == (2 : Int)))) (by kernel_rfl) (fun ht282 => ?_) (fun ht282 => ?_)
  ·
   have hs283 := ifT ht282 hs262
   refine CW.keep [0, 6, 8, 12, 120] (F' := [(0, .int .u8 a0), (6, pt g2 0), (8, pt g22 0), (12, pt g193 0), (120, .bool (((((a0 == (1 : Int)) || (a0 == (2 : Int))) && (!a1)) && x185.2) && (v100 == (2 : Int))))]) (by kernel_rfl) ?_
   refine CW.eqF (F' := [(0, .int .u8 a0), (6, pt g2 0), (8, pt g22 0), (12, pt g193 0), (120, .bool true)]) (by rw [ht282]) ?_
   have hk284 := ht282
   replace ht282 : ((((a0 = (1 : Int)) ∨ (a0 = (2 : Int))) ∧ (a1 = false)) ∧ (x185.2 = true)) ∧ (v100 = (2 : Int)) := ⟨⟨⟨(orMap (bOrT (bAndT (bAndT (bAndT ht282).1).1).1) (fun h => (bEqT h)) (fun h => (bEqT h))), (bNotT (bAndT (bAndT (bAndT ht282).1).1).2)⟩, (bAndT (bAndT ht282).1).2⟩, (bEqT (bAndT ht282).2)⟩
   refine CW.skip ?_
   have hb285 := ((((((((hb36.pure hc165).pure hc173).chg1 hc180 (by omega)).pure hc190).pure hc198).chg1 hc205 (by omega)).pure hc216).pure hc229).pure hc271
   have hb286 := (((((hb184.pure hc190).pure hc198).chg1 hc205 (by omega)).pure hc216).pure hc229).pure hc271
   have hb287 := ((((((((hb38.pure hc165).pure hc173).chg1 hc180 (by omega)).pure hc190).pure hc198).chg1 hc205 (by omega)).pure hc216).pure hc229).pure hc271
   have hb288 := (((((hb179.pure hc190).pure hc198).chg1 hc205 (by omega)).pure hc216).pure hc229).pure hc271
   have hb289 := ((hb204.pure hc216).pure hc229).pure hc271
   exact fun _ ha => ⟨_, ha.keep [0, 6, 8, 12, 120] (F' := [(0, .int .u8 a0), (6, pt g2 0), (8, pt g22 0), (12, pt g193 0), (120, .bool true)]) (by kernel_rfl), true, rfl, hC272, hb285, hb286, hb287, hb288, hb289, hs283⟩
  have hs290 := ifF ht282 hs262
  replace ht282 : ((((a0 ≠ (1 : Int)) ∧ (a0 ≠ (2 : Int))) ∨ (a1 = true)) ∨ (x185.2 = false)) ∨ (v100 ≠ (2 : Int)) := (orMap (bAndF ht282) (fun h => (orMap (bAndF h) (fun h => (orMap (bAndF h) (fun h => ⟨(bEqF (bOrF h).1), (bEqF (bOrF h).2)⟩) (fun h => (bNotF h)))) (fun h => h))) (fun h => (bEqF h)))
  refine CW.region ?_
  refine WR.batch 2 [(0, .int .u8 a0), (6, pt g2 0), (8, pt g22 0), (12, pt g193 0), (128, .bool ((((a0 == (1 : Int)) || (a0 == (2 : Int))) && (!a1)) && x185.2))] (by kernel_rfl) ?_
  refine WR.mergeW 6 [(0, .int .u8 a0), (6, pt g2 0), (8, pt g22 0), (12, pt g193 0), (132, .bool (((((a0 == (1 : Int)) || (a0 == (2 : Int))) && (!a1)) && x185.2) && (v100 == (3 : Int))))] (fun w' => Chg [] w270 w') (fun Q' => ?_) ?_
  ·
   cases hg291 : ((((a0 == (1 : Int)) || (a0 == (2 : Int))) && (!a1)) && x185.2)
   ·
    have hk293 := hg291
    replace hg291 : (((a0 ≠ (1 : Int)) ∧ (a0 ≠ (2 : Int))) ∨ (a1 = true)) ∨ (x185.2 = false) := (orMap (bAndF hg291) (fun h => (orMap (bAndF h) (fun h => ⟨(bEqF (bOrF h).1), (bEqF (bOrF h).2)⟩) (fun h => (bNotF h)))) (fun h => h))
    intro hM292
    refine WR.batch 4 [(0, .int .u8 a0), (6, pt g2 0), (8, pt g22 0), (12, pt g193 0), (132, .bool false)] (by kernel_rfl) ?_
    exact WR.keep [0, 6, 8, 12, 132] (by kernel_rfl) (hM292 _ (Chg.refl [] w270))
   ·
    have hk294 := hg291
    replace hg291 : (((a0 = (1 : Int)) ∨ (a0 = (2 : Int))) ∧ (a1 = false)) ∧ (x185.2 = true) := ⟨⟨(orMap (bOrT (bAndT (bAndT hg291).1).1) (fun h => (bEqT h)) (fun h => (bEqT h))), (bNotT (bAndT (bAndT hg291).1).2)⟩, (bAndT hg291).2⟩
    intro hM292
    refine WR.batch 1 [(0, .int .u8 a0), (6, pt g2 0), (8, pt g22 0), (12, pt g193 0), (128, .bool true), (129, pt g2 0)] (by kernel_rfl) ?_
    have hb295 := ((((((((hb36.pure hc165).pure hc173).chg1 hc180 (by omega)).pure hc190).pure hc198).chg1 hc205 (by omega)).pure hc216).pure hc229).pure hc271
    refine WR.load (dst := some 130) (t := 54) (o := 0) hb295 (by kernel_rfl) (.int .u8 v100) (by kernel_rfl) ?_
    refine WR.batch 2 [(0, .int .u8 a0), (6, pt g2 0), (8, pt g22 0), (12, pt g193 0), (132, .bool (v100 == (3 : Int)))] (by kernel_rfl) ?_
    exact WR.keep [0, 6, 8, 12, 132] (by kernel_rfl) (hM292 _ (Chg.refl [] w270))
  intro w296 hc297
  have hz299 := hc297.size
  have hC298 := hC272.pure hc297
  refine WR.batch 1 [(0, .int .u8 a0), (6, pt g2 0), (8, pt g22 0), (12, pt g193 0), (133, .bool (((((a0 == (1 : Int)) || (a0 == (2 : Int))) && (!a1)) && x185.2) && (v100 == (3 : Int))))] (by kernel_rfl) ?_
  refine WR.mergeW 13 [(0, .int .u8 a0), (6, pt g2 0), (8, pt g22 0), (12, pt g193 0), (139, .bool ((((((a0 == (1 : Int)) || (a0 == (2 : Int))) && (!a1)) && x185.2) && (v100 == (3 : Int))) && (x185.1.Lo == x185.1.Hi)))] (fun w' => Chg [] w296 w') (fun Q' => ?_) ?_
  ·
   cases hg300 : (((((a0 == (1 : Int)) || (a0 == (2 : Int))) && (!a1)) && x185.2) && (v100 == (3 : Int)))
   ·
    have hk302 := hg300
    replace hg300 : ((((a0 ≠ (1 : Int)) ∧ (a0 ≠ (2 : Int))) ∨ (a1 = true)) ∨ (x185.2 = false)) ∨ (v100 ≠ (3 : Int)) := (orMap (bAndF hg300) (fun h => (orMap (bAndF h) (fun h => (orMap (bAndF h) (fun h => ⟨(bEqF (bOrF h).1), (bEqF (bOrF h).2)⟩) (fun h => (bNotF h)))) (fun h => h))) (fun h => (bEqF h)))
    intro hM301
    refine WR.batch 6 [(0, .int .u8 a0), (6, pt g2 0), (8, pt g22 0), (12, pt g193 0), (139, .bool false)] (by kernel_rfl) ?_
    exact WR.keep [0, 6, 8, 12, 139] (by kernel_rfl) (hM301 _ (Chg.refl [] w296))
   ·
    have hk303 := hg300
    replace hg300 : ((((a0 = (1 : Int)) ∨ (a0 = (2 : Int))) ∧ (a1 = false)) ∧ (x185.2 = true)) ∧ (v100 = (3 : Int)) := ⟨⟨⟨(orMap (bOrT (bAndT (bAndT (bAndT hg300).1).1).1) (fun h => (bEqT h)) (fun h => (bEqT h))), (bNotT (bAndT (bAndT (bAndT hg300).1).1).2)⟩, (bAndT (bAndT hg300).1).2⟩, (bEqT (bAndT hg300).2)⟩
    intro hM301
    refine WR.batch 1 [(0, .int .u8 a0), (6, pt g2 0), (8, pt g22 0), (12, pt g193 0), (133, .bool true), (134, pt g193 0)] (by kernel_rfl) ?_
    have hb304 := (((hb204.pure hc216).pure hc229).pure hc271).pure hc297
    refine WR.load (dst := some 135) (t := 23) (o := 0) hb304 (by kernel_rfl) (.int .u64 x185.1.Lo) (by kernel_rfl) ?_
    refine WR.batch 1 [(0, .int .u8 a0), (6, pt g2 0), (8, pt g22 0), (12, pt g193 0), (133, .bool true), (135, .int .u64 x185.1.Lo), (136, pt g193 1)] (by kernel_rfl) ?_
    refine WR.load (dst := some 137) (t := 23) (o := 1) hb304 (by kernel_rfl) (.int .u64 x185.1.Hi) (by kernel_rfl) ?_
    refine WR.batch 2 [(0, .int .u8 a0), (6, pt g2 0), (8, pt g22 0), (12, pt g193 0), (139, .bool (x185.1.Lo == x185.1.Hi))] (by kernel_rfl) ?_
    exact WR.keep [0, 6, 8, 12, 139] (by kernel_rfl) (hM301 _ (Chg.refl [] w296))
  intro w305 hc306
  have hz308 := hc306.size
  have hC307 := hC298.pure hc306
  refine WR.batch 1 [(0, .int .u8 a0), (6, pt g2 0), (8, pt g22 0), (12, pt g193 0), (120, .bool ((((((a0 == (1 : Int)) || (a0 == (2 : Int))) && (!a1)) && x185.2) && (v100 == (3 : Int))) && (x185.1.Lo == x185.1.Hi)))] (by kernel_rfl) ?_
  refine WR.fin (by kernel_rfl) ?_
  have hb309 := ((((((((((hb36.pure hc165).pure hc173).chg1 hc180 (by omega)).pure hc190).pure hc198).chg1 hc205 (by omega)).pure hc216).pure hc229).pure hc271).pure hc297).pure hc306
  have hb310 := (((((((hb184.pure hc190).pure hc198).chg1 hc205 (by omega)).pure hc216).pure hc229).pure hc271).pure hc297).pure hc306
  have hb311 := ((((((((((hb38.pure hc165).pure hc173).chg1 hc180 (by omega)).pure hc190).pure hc198).chg1 hc205 (by omega)).pure hc216).pure hc229).pure hc271).pure hc297).pure hc306
  have hb312 := (((((((hb179.pure hc190).pure hc198).chg1 hc205 (by omega)).pure hc216).pure hc229).pure hc271).pure hc297).pure hc306
  have hb313 := ((((hb204.pure hc216).pure hc229).pure hc271).pure hc297).pure hc306
  exact fun _ ha => ⟨_, ha.keep [0, 6, 8, 12, 120] (F' := [(0, .int .u8 a0), (6, pt g2 0), (8, pt g22 0), (12, pt g193 0), (120, .bool ((((((a0 == (1 : Int)) || (a0 == (2 : Int))) && (!a1)) && x185.2) && (v100 == (3 : Int))) && (x185.1.Lo == x185.1.Hi)))]) (by kernel_rfl), ((((((a0 == (1 : Int)) || (a0 == (2 : Int))) && (!a1)) && x185.2) && (v100 == (3 : Int))) && (x185.1.Lo == x185.1.Hi)), rfl, hC307, hb309, hb310, hb311, hb312, hb313, hs290⟩
 rintro _ w276 ⟨v200, rfl, hC274, hb277, hb278, hb279, hb280, hb281, hsj275⟩
 have hz314 := hC274.size
 have hs315 := hsj275.trans (kind_Do_J1.eq_1 _ _ _ _ _ _ _ _ _ _ _ _ _)
 have hg316 := hb277.lt
 have hg317 := hb278.lt
 have hg318 := hb279.lt
 have hg319 := hb280.lt
 have hg320 := hb281.lt
 refine CW.cond (v200) (by kernel_rfl) (fun ht321 => ?_) (fun ht321 => ?_)
 ·
  have hs322 := ifT ht321 hs315
  refine CW.seq fun K323 hK323 => ?_
  refine CW.keep [0, 6, 8, 12] (F' := [(0, .int .u8 a0), (6, pt g2 0), (8, pt g22 0), (12, pt g193 0)]) (by kernel_rfl) ?_
  refine CW.regionG 7 [some (pt g2 0), some (.int .u8 v100), some (.int .u8 a0), some (pt g2 1), some (.agg #[.int .u64 v101, .int .u64 v102]), some (.agg #[.int .u64 x185.1.Lo, .int .u64 x185.1.Hi]), some (.agg #[.int .u64 (span_Do a0 false (⟨v101, v102⟩ : TSpan) x185.1).Lo, .int .u64 (span_Do a0 false (⟨v101, v102⟩ : TSpan) x185.1).Hi])] (fun u => [(140, pt g2 0), (141, .int .u8 v100), (142, .int .u8 a0), (143, pt g2 1), (144, .agg #[.int .u64 v101, .int .u64 v102]), (145, .agg #[.int .u64 x185.1.Lo, .int .u64 x185.1.Hi]), (146, .agg #[.int .u64 (span_Do a0 false (⟨v101, v102⟩ : TSpan) x185.1).Lo, .int .u64 (span_Do a0 false (⟨v101, v102⟩ : TSpan) x185.1).Hi]), (0, .int .u8 a0), (6, pt g2 0), (8, pt g22 0), (12, pt g193 0)]) (fun _ => by kernel_rfl) (by kernel_rfl) [] (fun _ _ => True) (fun _ => trivial) (fun _ _ _ _ _ _ _ => trivial) [] [] (by kernel_rfl) (fun w' => Chg [] w276 w') (fun _ _ _ => True) (fun j x w hj h => absurd hj (by simp)) (by kernel_rfl) (by kernel_rfl) (by kernel_rfl) (by kernel_rfl) (Chg.drew w276) (fun _ _ _ h h' => h.step h' (fun t ht => .inl (cL_sub t ht))) (fun _ _ _ _ _ _ _ _ => trivial) (obsG_batch 1 0 6 (fun _ _ => by kernel_rfl) (by kernel_rfl) ⟨?_, (obsG_batch 2 2 3 (fun _ _ => by kernel_rfl) (by kernel_rfl) ⟨?_, ⟨?_, ⟨?_, trivial⟩⟩⟩)⟩) ?_
  ·
   intro u324 w325 hW326 _ hp327 hal328
   have hz331 := hW326.size
   have hC330 := hC274.pure hW326
   have hb332 := hb277.pure hW326
   refine WR.load (dst := some 141) (t := 54) (o := 0) hb332 (by kernel_rfl) (.int .u8 v100) (by kernel_rfl) ?_
   refine WR.fin (by kernel_rfl) ?_
   exact fun _ ha => ⟨Chg.refl _ _, _, ha, ⟨⟨fun h => absurd h (by decide), alNone (by decide)⟩, rfl⟩⟩
  ·
   intro u333 w334 hW335 _ hp336 hal337
   have hz340 := hW335.size
   have hC339 := hC274.pure hW335
   have hb341 := hb277.pure hW335
   refine WR.load (dst := some 144) (t := 25) (o := 1) hb341 (by kernel_rfl) (.agg #[.int .u64 v101, .int .u64 v102]) (by kernel_rfl) ?_
   refine WR.fin (by kernel_rfl) ?_
   exact fun _ ha => ⟨Chg.refl _ _, _, ha, ⟨⟨fun h => absurd h (by decide), alNone (by decide)⟩, rfl⟩⟩
  ·
   intro u342 w343 hW344 _ hp345 hal346
   have hz349 := hW344.size
   have hC348 := hC274.pure hW344
   have hb350 := hb281.pure hW344
   refine WR.load (dst := some 145) (t := 25) (o := 0) hb350 (by kernel_rfl) (.agg #[.int .u64 x185.1.Lo, .int .u64 x185.1.Hi]) (by kernel_rfl) ?_
   refine WR.fin (by kernel_rfl) ?_
   exact fun _ ha => ⟨Chg.refl _ _, _, ha, ⟨⟨fun h => absurd h (by decide), alNone (by decide)⟩, rfl⟩⟩
  ·
   intro u351 w352 hW353 _ hp354 hal355
   have hz358 := hW353.size
   have hC357 := hC274.pure hW353
   have hx359 : IU64 (span_Do a0 false (⟨v101, v102⟩ : TSpan) x185.1).Lo ∧ IU64 (span_Do a0 false (⟨v101, v102⟩ : TSpan) x185.1).Hi := span_Do_ok a0 false (⟨v101, v102⟩ : TSpan) x185.1 (by omega) (show IU64 v101 ∧ IU64 v102 from ⟨(by omega), (by omega)⟩) ⟨(by omega), (by omega)⟩ 
   have hx360 : IU64 (span_Do a0 false (⟨v101, v102⟩ : TSpan) x185.1).Lo ∧ IU64 (span_Do a0 false (⟨v101, v102⟩ : TSpan) x185.1).Hi := span_Do_ok a0 false (⟨v101, v102⟩ : TSpan) x185.1 (by omega) (show IU64 v101 ∧ IU64 v102 from ⟨(by omega), (by omega)⟩) ⟨(by omega), (by omega)⟩ 
   refine WR.call (dst := some 146) (by kernel_rfl) (span_Do_any a0 false (⟨v101, v102⟩ : TSpan) x185.1 w352  (by omega) (show IU64 v101 ∧ IU64 v102 from ⟨(by omega), (by omega)⟩) ⟨(by omega), (by omega)⟩ ) ?_
   rintro _ w361 hc362 rfl
   have hz364 := hc362.size
   have hC363 := hC357.pure hc362
   refine WR.fin (by kernel_rfl) ?_
   exact fun _ ha => ⟨hc362, _, ha, ⟨⟨fun h => absurd h (by decide), alNone (by decide)⟩, rfl⟩⟩
  intro u365 w366 hW367 _ _ _
  have hz372 := hW367.size
  have hC371 := hC274.pure hW367
  have hx373 : IU64 (span_Do a0 false (⟨v101, v102⟩ : TSpan) x185.1).Lo ∧ IU64 (span_Do a0 false (⟨v101, v102⟩ : TSpan) x185.1).Hi := span_Do_ok a0 false (⟨v101, v102⟩ : TSpan) x185.1 (by omega) (show IU64 v101 ∧ IU64 v102 from ⟨(by omega), (by omega)⟩) ⟨(by omega), (by omega)⟩ 
  refine WR.keep [8, 141, 146] (F' := [(8, pt g22 0), (141, .int .u8 v100), (146, .agg #[.int .u64 (span_Do a0 false (⟨v101, v102⟩ : TSpan) x185.1).Lo, .int .u64 (span_Do a0 false (⟨v101, v102⟩ : TSpan) x185.1).Hi])]) (by kernel_rfl) ?_
  refine WR.batch 1 [(8, pt g22 0), (147, .agg #[.int .u8 v100, .int .u64 (span_Do a0 false (⟨v101, v102⟩ : TSpan) x185.1).Lo, .int .u64 (span_Do a0 false (⟨v101, v102⟩ : TSpan) x185.1).Hi])] (by kernel_rfl) ?_
  have hb377 := hb279.pure hW367
  refine WR.store (t := 56) (o := 0) (v := .agg #[.int .u8 v100, .int .u64 (span_Do a0 false (⟨v101, v102⟩ : TSpan) x185.1).Lo, .int .u64 (span_Do a0 false (⟨v101, v102⟩ : TSpan) x185.1).Hi]) hb377 (by kernel_rfl) #[.int .u8 v100, .int .u64 (span_Do a0 false (⟨v101, v102⟩ : TSpan) x185.1).Lo, .int .u64 (span_Do a0 false (⟨v101, v102⟩ : TSpan) x185.1).Hi] (by kernel_rfl) ?_
  intro w374 hb375 hc376
  have hz379 := hc376.size
  have hC378 := hC371.step1 hc376 (by omega)
  refine WR.batch 1 [(8, pt g22 0), (9, .int .i64 0)] (by kernel_rfl) ?_
  refine WR.fin (by kernel_rfl) ?_
  refine go hK323 ?_
  refine CW.ret ?_
  exact retC [.agg #[.int .u8 v100, .int .u64 (span_Do a0 false (⟨v101, v102⟩ : TSpan) x185.1).Lo, .int .u64 (span_Do a0 false (⟨v101, v102⟩ : TSpan) x185.1).Hi], .int .i64 0] _ rfl ⟨resCell hb375 rfl (by kernel_rfl), rfl, trivial⟩ (⟨hC378, (congrArg (fun r : (TKnown × Int) => (.tuple #[TKnown.v r.1, .int .i64 r.2] : Value)) hs322).symm⟩)
 have hs380 := ifF ht321 hs315
 refine CW.skip ?_
 refine go hK209 ?_
 refine CW.seq fun K381 hK381 => ?_
 refine CW.region ?_
 refine WR.batch 1 [(8, pt g22 0), (148, .agg #[.int .u8 0, .int .u64 0, .int .u64 0])] (by kernel_rfl) ?_
 refine WR.store (t := 56) (o := 0) (v := .agg #[.int .u8 0, .int .u64 0, .int .u64 0]) hb279 (by kernel_rfl) #[.int .u8 0, .int .u64 0, .int .u64 0] (by kernel_rfl) ?_
 intro w382 hb383 hc384
 have hz386 := hc384.size
 have hC385 := hC274.step1 hc384 (by omega)
 refine WR.batch 1 [(8, pt g22 0), (9, .int .i64 114)] (by kernel_rfl) ?_
 refine WR.fin (by kernel_rfl) ?_
 refine go hK381 ?_
 refine CW.ret ?_
 exact retC [.agg #[.int .u8 0, .int .u64 0, .int .u64 0], .int .i64 114] _ rfl ⟨resCell hb383 rfl (by kernel_rfl), rfl, trivial⟩ (⟨hC385, (congrArg (fun r : (TKnown × Int) => (.tuple #[TKnown.v r.1, .int .i64 r.2] : Value)) hs380).symm⟩)
end Go.V
