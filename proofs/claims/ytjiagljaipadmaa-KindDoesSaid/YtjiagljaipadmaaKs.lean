import Derived.Test.YtjiagljaipadmaaProg
import Derived.Test.YtjiagljaipadmaaRb
import Derived.Test.YtjiagljaipadmaaKr
namespace Go.V
open Go.RowKit Go.Proofs
def ref12_Do_J1 (a0 : Int) (a1 : Bool) (a2 : TKnown) (_a3 : TKnown) (_x94 : (TSpan × Bool)) (_x119 : (TSpan × Bool)) (v100 : Bool) (v101 : Int) (v102 : Int) (v200 : Bool) (v201 : Int) (v202 : Int) : (TKnown × Int) := (if (v100 && v200) then (if (((a0 == (4 : Int)) || (a0 == (5 : Int))) && ((v201 == (0 : Int)) || (a1 && (decide (v202 > (4294967295 : Int)))))) then ((⟨(0 : Int), (⟨(0 : Int), (0 : Int)⟩ : TSpan)⟩ : TKnown), (113 : Int)) else (letF (ref11_Do a0 a1 (⟨v101, v102⟩ : TSpan) (⟨v201, v202⟩ : TSpan)) fun x263 => ((⟨(1 : Int), x263⟩ : TKnown), (0 : Int)))) else (if ((((v100 || (!v200)) || a1) || ((a0 != (1 : Int)) && (a0 != (2 : Int)))) || ((a2.Kind == (3 : Int)) && (v201 != v202))) then ((⟨(0 : Int), (⟨(0 : Int), (0 : Int)⟩ : TSpan)⟩ : TKnown), (114 : Int)) else ((⟨a2.Kind, (ref11_Do a0 false a2.In (⟨v201, v202⟩ : TSpan))⟩ : TKnown), (0 : Int))))

def ref12_Do_J0 (a0 : Int) (a1 : Bool) (a2 : TKnown) (a3 : TKnown) (x94 : (TSpan × Bool)) (x119 : (TSpan × Bool)) (v100 : Bool) (v101 : Int) (v102 : Int) : (TKnown × Int) := (if (a0 == (13 : Int)) then (ref12_Do_J1 a0 a1 a2 a3 x94 x119 v100 v101 v102 v100 v101 v102) else (ref12_Do_J1 a0 a1 a2 a3 x94 x119 v100 v101 v102 x119.2 x119.1.Lo x119.1.Hi))

def ref12_Do (a0 : Int) (a1 : Bool) (a2 : TKnown) (a3 : TKnown)  : (TKnown × Int) := (if ((((decide (a0 < (1 : Int))) || (decide (a0 > (13 : Int)))) || (!(ref12_Right a2))) || (!(ref12_Right a3))) then ((⟨(0 : Int), (⟨(0 : Int), (0 : Int)⟩ : TSpan)⟩ : TKnown), (2 : Int)) else (if (((a2.Kind == (0 : Int)) && (a0 != (12 : Int))) || ((a3.Kind == (0 : Int)) && (a0 != (13 : Int)))) then ((⟨(0 : Int), (⟨(0 : Int), (0 : Int)⟩ : TSpan)⟩ : TKnown), (110 : Int)) else (letF (ref12_Number a2) fun x94 => (letF (ref12_Number a3) fun x119 => (if (a0 == (12 : Int)) then (if (!a1) then (a3, (0 : Int)) else (ref12_Do_J0 a0 a1 a2 a3 x94 x119 x119.2 x119.1.Lo x119.1.Hi)) else (ref12_Do_J0 a0 a1 a2 a3 x94 x119 x94.2 x94.1.Lo x94.1.Hi))))))

theorem ref12_Do_J1_ok (a0 : Int) (a1 : Bool) (a2 : TKnown) (a3 : TKnown) (x94 : (TSpan × Bool)) (x119 : (TSpan × Bool)) (v100 : Bool) (v101 : Int) (v102 : Int) (_h_a0 : IU8 a0) (_h_a2 : IU8 a2.Kind ∧ IU64 a2.In.Lo ∧ IU64 a2.In.Hi) (_h_a3 : IU8 a3.Kind ∧ IU64 a3.In.Lo ∧ IU64 a3.In.Hi)  (v200 : Bool) (v201 : Int) (v202 : Int) (_hx96 : IU64 x94.1.Lo ∧ IU64 x94.1.Hi) (_hx121 : IU64 x119.1.Lo ∧ IU64 x119.1.Hi) (_hr_v101 : IU64 v101) (_hr_v102 : IU64 v102) (_hr_v201 : IU64 v201) (_hr_v202 : IU64 v202) : IU8 (ref12_Do_J1 a0 a1 a2 a3 x94 x119 v100 v101 v102 v200 v201 v202).1.Kind ∧ IU64 (ref12_Do_J1 a0 a1 a2 a3 x94 x119 v100 v101 v102 v200 v201 v202).1.In.Lo ∧ IU64 (ref12_Do_J1 a0 a1 a2 a3 x94 x119 v100 v101 v102 v200 v201 v202).1.In.Hi ∧ II64 (ref12_Do_J1 a0 a1 a2 a3 x94 x119 v100 v101 v102 v200 v201 v202).2 := by
 rw [ref12_Do_J1.eq_1]
 refine iteR (p := fun r : (TKnown × Int) => IU8 r.1.Kind ∧ IU64 r.1.In.Lo ∧ IU64 r.1.In.Hi ∧ II64 r.2) (fun hi1001 => ?_) (fun hi1001 => ?_)
 ·
  replace hi1001 : (v100 = true) ∧ (v200 = true) := ⟨(bAndT hi1001).1, (bAndT hi1001).2⟩
  refine iteR (p := fun r : (TKnown × Int) => IU8 r.1.Kind ∧ IU64 r.1.In.Lo ∧ IU64 r.1.In.Hi ∧ II64 r.2) (fun hi1002 => ?_) (fun hi1002 => ?_)
  ·
   replace hi1002 : ((a0 = (4 : Int)) ∨ (a0 = (5 : Int))) ∧ ((v201 = (0 : Int)) ∨ ((a1 = true) ∧ (v202 > (4294967295 : Int)))) := ⟨(orMap (bOrT (bAndT hi1002).1) (fun h => (bEqT h)) (fun h => (bEqT h))), (orMap (bOrT (bAndT hi1002).2) (fun h => (bEqT h)) (fun h => ⟨(bAndT h).1, (of_decide_eq_true (bAndT h).2)⟩))⟩
   exact (by exact (show IU8 (0 : Int) ∧ IU64 (0 : Int) ∧ IU64 (0 : Int) ∧ II64 (113 : Int) from ⟨(by omega), (by omega), (by omega), (by omega)⟩))
  replace hi1002 : ((a0 ≠ (4 : Int)) ∧ (a0 ≠ (5 : Int))) ∨ ((v201 ≠ (0 : Int)) ∧ ((a1 = false) ∨ (¬ (v202 > (4294967295 : Int))))) := (orMap (bAndF hi1002) (fun h => ⟨(bEqF (bOrF h).1), (bEqF (bOrF h).2)⟩) (fun h => ⟨(bEqF (bOrF h).1), (orMap (bAndF (bOrF h).2) (fun h => h) (fun h => (of_decide_eq_false h)))⟩))
  refine letR (p := fun r : (TKnown × Int) => IU8 r.1.Kind ∧ IU64 r.1.In.Lo ∧ IU64 r.1.In.Hi ∧ II64 r.2) fun x263 hx264 => ?_
  have hx265 : IU64 x263.Lo ∧ IU64 x263.Hi := by rw [← hx264]; exact ref11_Do_ok a0 a1 (⟨v101, v102⟩ : TSpan) (⟨v201, v202⟩ : TSpan) (by omega) (show IU64 v101 ∧ IU64 v102 from ⟨(by omega), (by omega)⟩) (show IU64 v201 ∧ IU64 v202 from ⟨(by omega), (by omega)⟩) 
  exact (by exact (show IU8 (1 : Int) ∧ IU64 x263.Lo ∧ IU64 x263.Hi ∧ II64 (0 : Int) from ⟨(by omega), (by omega), (by omega), (by omega)⟩))
 replace hi1001 : (v100 = false) ∨ (v200 = false) := (orMap (bAndF hi1001) (fun h => h) (fun h => h))
 refine iteR (p := fun r : (TKnown × Int) => IU8 r.1.Kind ∧ IU64 r.1.In.Lo ∧ IU64 r.1.In.Hi ∧ II64 r.2) (fun hi1003 => ?_) (fun hi1003 => ?_)
 ·
  replace hi1003 : ((((v100 = true) ∨ (v200 = false)) ∨ (a1 = true)) ∨ ((a0 ≠ (1 : Int)) ∧ (a0 ≠ (2 : Int)))) ∨ ((a2.Kind = (3 : Int)) ∧ (v201 ≠ v202)) := (orMap (bOrT hi1003) (fun h => (orMap (bOrT h) (fun h => (orMap (bOrT h) (fun h => (orMap (bOrT h) (fun h => h) (fun h => (bNotT h)))) (fun h => h))) (fun h => ⟨(bNeT (bAndT h).1), (bNeT (bAndT h).2)⟩))) (fun h => ⟨(bEqT (bAndT h).1), (bNeT (bAndT h).2)⟩))
  exact (by exact (show IU8 (0 : Int) ∧ IU64 (0 : Int) ∧ IU64 (0 : Int) ∧ II64 (114 : Int) from ⟨(by omega), (by omega), (by omega), (by omega)⟩))
 replace hi1003 : ((((v100 = false) ∧ (v200 = true)) ∧ (a1 = false)) ∧ ((a0 = (1 : Int)) ∨ (a0 = (2 : Int)))) ∧ ((a2.Kind ≠ (3 : Int)) ∨ (v201 = v202)) := ⟨⟨⟨⟨(bOrF (bOrF (bOrF (bOrF hi1003).1).1).1).1, (bNotF (bOrF (bOrF (bOrF (bOrF hi1003).1).1).1).2)⟩, (bOrF (bOrF (bOrF hi1003).1).1).2⟩, (orMap (bAndF (bOrF (bOrF hi1003).1).2) (fun h => (bNeF h)) (fun h => (bNeF h)))⟩, (orMap (bAndF (bOrF hi1003).2) (fun h => (bEqF h)) (fun h => (bNeF h)))⟩
 exact (by have : IU64 (ref11_Do a0 false a2.In (⟨v201, v202⟩ : TSpan)).Lo ∧ IU64 (ref11_Do a0 false a2.In (⟨v201, v202⟩ : TSpan)).Hi := ref11_Do_ok a0 false a2.In (⟨v201, v202⟩ : TSpan) (by omega) ⟨(by omega), (by omega)⟩ (show IU64 v201 ∧ IU64 v202 from ⟨(by omega), (by omega)⟩) ; exact (show IU8 a2.Kind ∧ IU64 (ref11_Do a0 false a2.In (⟨v201, v202⟩ : TSpan)).Lo ∧ IU64 (ref11_Do a0 false a2.In (⟨v201, v202⟩ : TSpan)).Hi ∧ II64 (0 : Int) from ⟨(by omega), (by omega), (by omega), (by omega)⟩))

theorem ref12_Do_J0_ok (a0 : Int) (a1 : Bool) (a2 : TKnown) (a3 : TKnown) (x94 : (TSpan × Bool)) (x119 : (TSpan × Bool)) (h_a0 : IU8 a0) (h_a2 : IU8 a2.Kind ∧ IU64 a2.In.Lo ∧ IU64 a2.In.Hi) (h_a3 : IU8 a3.Kind ∧ IU64 a3.In.Lo ∧ IU64 a3.In.Hi)  (v100 : Bool) (v101 : Int) (v102 : Int) (hx96 : IU64 x94.1.Lo ∧ IU64 x94.1.Hi) (hx121 : IU64 x119.1.Lo ∧ IU64 x119.1.Hi) (hr_v101 : IU64 v101) (hr_v102 : IU64 v102) : IU8 (ref12_Do_J0 a0 a1 a2 a3 x94 x119 v100 v101 v102).1.Kind ∧ IU64 (ref12_Do_J0 a0 a1 a2 a3 x94 x119 v100 v101 v102).1.In.Lo ∧ IU64 (ref12_Do_J0 a0 a1 a2 a3 x94 x119 v100 v101 v102).1.In.Hi ∧ II64 (ref12_Do_J0 a0 a1 a2 a3 x94 x119 v100 v101 v102).2 := by
 rw [ref12_Do_J0.eq_1]
 refine iteR (p := fun r : (TKnown × Int) => IU8 r.1.Kind ∧ IU64 r.1.In.Lo ∧ IU64 r.1.In.Hi ∧ II64 r.2) (fun hi1004 => ?_) (fun hi1004 => ?_)
 ·
  replace hi1004 : a0 = (13 : Int) := (bEqT hi1004)
  exact ref12_Do_J1_ok a0 a1 a2 a3 x94 x119 v100 v101 v102 h_a0 h_a2 h_a3  v100 v101 v102 hx96 hx121 hr_v101 hr_v102 (by omega) (by omega)
 replace hi1004 : a0 ≠ (13 : Int) := (bEqF hi1004)
 exact ref12_Do_J1_ok a0 a1 a2 a3 x94 x119 v100 v101 v102 h_a0 h_a2 h_a3  x119.2 x119.1.Lo x119.1.Hi hx96 hx121 hr_v101 hr_v102 (by omega) (by omega)

theorem ref12_Do_ok (a0 : Int) (a1 : Bool) (a2 : TKnown) (a3 : TKnown)  (h_a0 : IU8 a0) (h_a2 : IU8 a2.Kind ∧ IU64 a2.In.Lo ∧ IU64 a2.In.Hi) (h_a3 : IU8 a3.Kind ∧ IU64 a3.In.Lo ∧ IU64 a3.In.Hi)  : IU8 (ref12_Do a0 a1 a2 a3).1.Kind ∧ IU64 (ref12_Do a0 a1 a2 a3).1.In.Lo ∧ IU64 (ref12_Do a0 a1 a2 a3).1.In.Hi ∧ II64 (ref12_Do a0 a1 a2 a3).2 := by
 rw [ref12_Do.eq_1]
 refine iteR (p := fun r : (TKnown × Int) => IU8 r.1.Kind ∧ IU64 r.1.In.Lo ∧ IU64 r.1.In.Hi ∧ II64 r.2) (fun hi1005 => ?_) (fun hi1005 => ?_)
 ·
  replace hi1005 : (((a0 < (1 : Int)) ∨ (a0 > (13 : Int))) ∨ ((ref12_Right a2) = false)) ∨ ((ref12_Right a3) = false) := (orMap (bOrT hi1005) (fun h => (orMap (bOrT h) (fun h => (orMap (bOrT h) (fun h => (of_decide_eq_true h)) (fun h => (of_decide_eq_true h)))) (fun h => (bNotT h)))) (fun h => (bNotT h)))
  exact (by exact (show IU8 (0 : Int) ∧ IU64 (0 : Int) ∧ IU64 (0 : Int) ∧ II64 (2 : Int) from ⟨(by omega), (by omega), (by omega), (by omega)⟩))
 replace hi1005 : (((¬ (a0 < (1 : Int))) ∧ (¬ (a0 > (13 : Int)))) ∧ ((ref12_Right a2) = true)) ∧ ((ref12_Right a3) = true) := ⟨⟨⟨(of_decide_eq_false (bOrF (bOrF (bOrF hi1005).1).1).1), (of_decide_eq_false (bOrF (bOrF (bOrF hi1005).1).1).2)⟩, (bNotF (bOrF (bOrF hi1005).1).2)⟩, (bNotF (bOrF hi1005).2)⟩
 refine iteR (p := fun r : (TKnown × Int) => IU8 r.1.Kind ∧ IU64 r.1.In.Lo ∧ IU64 r.1.In.Hi ∧ II64 r.2) (fun hi1006 => ?_) (fun hi1006 => ?_)
 ·
  replace hi1006 : ((a2.Kind = (0 : Int)) ∧ (a0 ≠ (12 : Int))) ∨ ((a3.Kind = (0 : Int)) ∧ (a0 ≠ (13 : Int))) := (orMap (bOrT hi1006) (fun h => ⟨(bEqT (bAndT h).1), (bNeT (bAndT h).2)⟩) (fun h => ⟨(bEqT (bAndT h).1), (bNeT (bAndT h).2)⟩))
  exact (by exact (show IU8 (0 : Int) ∧ IU64 (0 : Int) ∧ IU64 (0 : Int) ∧ II64 (110 : Int) from ⟨(by omega), (by omega), (by omega), (by omega)⟩))
 replace hi1006 : ((a2.Kind ≠ (0 : Int)) ∨ (a0 = (12 : Int))) ∧ ((a3.Kind ≠ (0 : Int)) ∨ (a0 = (13 : Int))) := ⟨(orMap (bAndF (bOrF hi1006).1) (fun h => (bEqF h)) (fun h => (bNeF h))), (orMap (bAndF (bOrF hi1006).2) (fun h => (bEqF h)) (fun h => (bNeF h)))⟩
 refine letR (p := fun r : (TKnown × Int) => IU8 r.1.Kind ∧ IU64 r.1.In.Lo ∧ IU64 r.1.In.Hi ∧ II64 r.2) fun x94 hx95 => ?_
 have hx96 : IU64 x94.1.Lo ∧ IU64 x94.1.Hi := by rw [← hx95]; exact ref12_Number_ok a2 ⟨(by omega), (by omega), (by omega)⟩ 
 refine letR (p := fun r : (TKnown × Int) => IU8 r.1.Kind ∧ IU64 r.1.In.Lo ∧ IU64 r.1.In.Hi ∧ II64 r.2) fun x119 hx120 => ?_
 have hx121 : IU64 x119.1.Lo ∧ IU64 x119.1.Hi := by rw [← hx120]; exact ref12_Number_ok a3 ⟨(by omega), (by omega), (by omega)⟩ 
 refine iteR (p := fun r : (TKnown × Int) => IU8 r.1.Kind ∧ IU64 r.1.In.Lo ∧ IU64 r.1.In.Hi ∧ II64 r.2) (fun hi1007 => ?_) (fun hi1007 => ?_)
 ·
  replace hi1007 : a0 = (12 : Int) := (bEqT hi1007)
  refine iteR (p := fun r : (TKnown × Int) => IU8 r.1.Kind ∧ IU64 r.1.In.Lo ∧ IU64 r.1.In.Hi ∧ II64 r.2) (fun hi1008 => ?_) (fun hi1008 => ?_)
  ·
   replace hi1008 : a1 = false := (bNotT hi1008)
   exact (by exact (show IU8 a3.Kind ∧ IU64 a3.In.Lo ∧ IU64 a3.In.Hi ∧ II64 (0 : Int) from ⟨(by omega), (by omega), (by omega), (by omega)⟩))
  replace hi1008 : a1 = true := (bNotF hi1008)
  exact ref12_Do_J0_ok a0 a1 a2 a3 x94 x119 h_a0 h_a2 h_a3  x119.2 x119.1.Lo x119.1.Hi hx96 hx121 (by omega) (by omega)
 replace hi1007 : a0 ≠ (12 : Int) := (bEqF hi1007)
 exact ref12_Do_J0_ok a0 a1 a2 a3 x94 x119 h_a0 h_a2 h_a3  x94.2 x94.1.Lo x94.1.Hi hx96 hx121 (by omega) (by omega)

set_option maxRecDepth 100000 in
set_option maxHeartbeats 4000000 in
theorem ref12_Do_any (a0 : Int) (a1 : Bool) (a2 : TKnown) (a3 : TKnown)   (w : World)  (_h_a0 : IU8 a0) (_h_a2 : IU8 a2.Kind ∧ IU64 a2.In.Lo ∧ IU64 a2.In.Hi) (_h_a3 : IU8 a3.Kind ∧ IU64 a3.In.Lo ∧ IU64 a3.In.Hi)  : Calls Try.prog 39 #[.int .u8 a0, .bool a1, .agg #[.int .u8 a2.Kind, .int .u64 a2.In.Lo, .int .u64 a2.In.Hi], .agg #[.int .u8 a3.Kind, .int .u64 a3.In.Lo, .int .u64 a3.In.Hi]] w (RetV w (.tuple #[TKnown.v (ref12_Do a0 a1 a2 a3).1, .int .i64 (ref12_Do a0 a1 a2 a3).2])) := by
 have hs := ref12_Do.eq_1 a0 a1 a2 a3
 refine calls_of_CW Try.func39 rfl (n := 136) Try.ntmps39 (by kernel_rfl) [0, 1, 2, 3] (F := [(0, .int .u8 a0), (1, .bool a1), (2, .agg #[.int .u8 a2.Kind, .int .u64 a2.In.Lo, .int .u64 a2.In.Hi]), (3, .agg #[.int .u8 a3.Kind, .int .u64 a3.In.Lo, .int .u64 a3.In.Hi])]) (by kernel_rfl) ?_
 refine CW.seq fun K1 hK1 => ?_
 refine CW.region ?_
 refine WR.box (dst := some 6) (e := 56) (v := .agg #[.int .u8 a2.Kind, .int .u64 a2.In.Lo, .int .u64 a2.In.Hi]) (by kernel_rfl) #[.int .u8 a2.Kind, .int .u64 a2.In.Lo, .int .u64 a2.In.Hi] (by kernel_rfl) ?_
 intro g2 w3 hN4
 have hf6 : w.heap.size ≤ g2 := hN4.fresh
 have hfr8 := hN4.fresh
 have hc7 := hN4.chg
 have hz10 := hc7.size
 have hC9 := (Chg.refl [] w).pure hc7
 have hb5 := hN4.blk
 have hg11 := hb5.lt
 refine WR.box (dst := some 7) (e := 56) (v := .agg #[.int .u8 a3.Kind, .int .u64 a3.In.Lo, .int .u64 a3.In.Hi]) (by kernel_rfl) #[.int .u8 a3.Kind, .int .u64 a3.In.Lo, .int .u64 a3.In.Hi] (by kernel_rfl) ?_
 intro g12 w13 hN14
 have hf16 : w.heap.size ≤ g12 := Nat.le_trans hC9.size hN14.fresh
 have hfr18 := hN14.fresh
 have hc17 := hN14.chg
 have hz20 := hc17.size
 have hC19 := hC9.pure hc17
 have hb15 := hN14.blk
 have hg21 := hb15.lt
 refine WR.alloc (dst := some 8) (e := 56) (by kernel_rfl) #[.int .u8 0, .int .u64 0, .int .u64 0] (by kernel_rfl) ?_
 intro g22 w23 hN24
 have hf26 : w.heap.size ≤ g22 := Nat.le_trans hC19.size hN24.fresh
 have hfr28 := hN24.fresh
 have hc27 := hN24.chg
 have hz30 := hc27.size
 have hC29 := hC19.pure hc27
 have hb25 := hN24.blk
 have hg31 := hb25.lt
 refine WR.batch 1 [(0, .int .u8 a0), (1, .bool a1), (6, pt g2 0), (7, pt g12 0), (8, pt g22 0)] (by kernel_rfl) ?_
 refine WR.fin (by kernel_rfl) ?_
 refine go hK1 ?_
 refine CW.seq fun K32 hK32 => ?_
 refine CW.seq fun K33 hK33 => ?_
 refine CW.region ?_
 refine WR.batch 3 [(0, .int .u8 a0), (1, .bool a1), (6, pt g2 0), (7, pt g12 0), (8, pt g22 0), (16, .bool (decide (a0 < (1 : Int))))] (by kernel_rfl) ?_
 refine WR.batch 3 [(0, .int .u8 a0), (1, .bool a1), (6, pt g2 0), (7, pt g12 0), (8, pt g22 0), (19, .bool ((decide (a0 < (1 : Int))) || (decide (a0 > (13 : Int)))))] (by generalize decide (a0 < (1 : Int)) = b; cases b <;> kernel_rfl) ?_
 refine WR.batch 1 [(0, .int .u8 a0), (1, .bool a1), (6, pt g2 0), (7, pt g12 0), (8, pt g22 0), (20, .bool ((decide (a0 < (1 : Int))) || (decide (a0 > (13 : Int)))))] (by kernel_rfl) ?_
 refine WR.mergeW 11 [(0, .int .u8 a0), (1, .bool a1), (6, pt g2 0), (7, pt g12 0), (8, pt g22 0), (24, .bool (((decide (a0 < (1 : Int))) || (decide (a0 > (13 : Int)))) || (!(ref12_Right a2))))] (fun w' => Chg [] w23 w') (fun Q' => ?_) ?_
 ·
  cases hg34 : ((decide (a0 < (1 : Int))) || (decide (a0 > (13 : Int))))
  ·
   have hk36 := hg34
   replace hg34 : (¬ (a0 < (1 : Int))) ∧ (¬ (a0 > (13 : Int))) := ⟨(of_decide_eq_false (bOrF hg34).1), (of_decide_eq_false (bOrF hg34).2)⟩
   intro hM35
   have hb37 := (hb5.pure hc17).pure hc27
   refine WR.load (dst := some 21) (t := 56) (o := 0) hb37 (by kernel_rfl) (.agg #[.int .u8 a2.Kind, .int .u64 a2.In.Lo, .int .u64 a2.In.Hi]) (by kernel_rfl) ?_
   refine WR.call (dst := some 22) (by kernel_rfl) (ref12_Right_any a2 w23  ⟨(by omega), (by omega), (by omega)⟩ ) ?_
   rintro _ w38 hc39 rfl
   have hz41 := hc39.size
   have hC40 := hC29.pure hc39
   refine WR.batch 2 [(0, .int .u8 a0), (1, .bool a1), (6, pt g2 0), (7, pt g12 0), (8, pt g22 0), (24, .bool (!(ref12_Right a2)))] (by kernel_rfl) ?_
   exact WR.keep [0, 1, 6, 7, 8, 24] (by kernel_rfl) (hM35 _ ((Chg.refl [] w23).pure hc39))
  ·
   have hk42 := hg34
   replace hg34 : (a0 < (1 : Int)) ∨ (a0 > (13 : Int)) := (orMap (bOrT hg34) (fun h => (of_decide_eq_true h)) (fun h => (of_decide_eq_true h)))
   intro hM35
   refine WR.batch 4 [(0, .int .u8 a0), (1, .bool a1), (6, pt g2 0), (7, pt g12 0), (8, pt g22 0), (24, .bool true)] (by kernel_rfl) ?_
   exact WR.keep [0, 1, 6, 7, 8, 24] (by kernel_rfl) (hM35 _ (Chg.refl [] w23))
 intro w43 hc44
 have hz46 := hc44.size
 have hC45 := hC29.pure hc44
 refine WR.batch 1 [(0, .int .u8 a0), (1, .bool a1), (6, pt g2 0), (7, pt g12 0), (8, pt g22 0), (25, .bool (((decide (a0 < (1 : Int))) || (decide (a0 > (13 : Int)))) || (!(ref12_Right a2))))] (by kernel_rfl) ?_
 refine WR.mergeW 16 [(0, .int .u8 a0), (1, .bool a1), (6, pt g2 0), (7, pt g12 0), (8, pt g22 0), (29, .bool ((((decide (a0 < (1 : Int))) || (decide (a0 > (13 : Int)))) || (!(ref12_Right a2))) || (!(ref12_Right a3))))] (fun w' => Chg [] w43 w') (fun Q' => ?_) ?_
 ·
  cases hg47 : (((decide (a0 < (1 : Int))) || (decide (a0 > (13 : Int)))) || (!(ref12_Right a2)))
  ·
   have hk49 := hg47
   replace hg47 : ((¬ (a0 < (1 : Int))) ∧ (¬ (a0 > (13 : Int)))) ∧ ((ref12_Right a2) = true) := ⟨⟨(of_decide_eq_false (bOrF (bOrF hg47).1).1), (of_decide_eq_false (bOrF (bOrF hg47).1).2)⟩, (bNotF (bOrF hg47).2)⟩
   intro hM48
   have hb50 := (hb15.pure hc27).pure hc44
   refine WR.load (dst := some 26) (t := 56) (o := 0) hb50 (by kernel_rfl) (.agg #[.int .u8 a3.Kind, .int .u64 a3.In.Lo, .int .u64 a3.In.Hi]) (by kernel_rfl) ?_
   refine WR.call (dst := some 27) (by kernel_rfl) (ref12_Right_any a3 w43  ⟨(by omega), (by omega), (by omega)⟩ ) ?_
   rintro _ w51 hc52 rfl
   have hz54 := hc52.size
   have hC53 := hC45.pure hc52
   refine WR.batch 2 [(0, .int .u8 a0), (1, .bool a1), (6, pt g2 0), (7, pt g12 0), (8, pt g22 0), (29, .bool (!(ref12_Right a3)))] (by kernel_rfl) ?_
   exact WR.keep [0, 1, 6, 7, 8, 29] (by kernel_rfl) (hM48 _ ((Chg.refl [] w43).pure hc52))
  ·
   have hk55 := hg47
   replace hg47 : ((a0 < (1 : Int)) ∨ (a0 > (13 : Int))) ∨ ((ref12_Right a2) = false) := (orMap (bOrT hg47) (fun h => (orMap (bOrT h) (fun h => (of_decide_eq_true h)) (fun h => (of_decide_eq_true h)))) (fun h => (bNotT h)))
   intro hM48
   refine WR.batch 4 [(0, .int .u8 a0), (1, .bool a1), (6, pt g2 0), (7, pt g12 0), (8, pt g22 0), (29, .bool true)] (by kernel_rfl) ?_
   exact WR.keep [0, 1, 6, 7, 8, 29] (by kernel_rfl) (hM48 _ (Chg.refl [] w43))
 intro w56 hc57
 have hz59 := hc57.size
 have hC58 := hC45.pure hc57
 refine WR.fin (by kernel_rfl) ?_
 refine go hK33 ?_
 refine CW.cond (((((decide (a0 < (1 : Int))) || (decide (a0 > (13 : Int)))) || (!(ref12_Right a2))) || (!(ref12_Right a3)))) (by kernel_rfl) (fun ht60 => ?_) (fun ht60 => ?_)
 ·
  have hs61 := ifT ht60 hs
  replace ht60 : (((a0 < (1 : Int)) ∨ (a0 > (13 : Int))) ∨ ((ref12_Right a2) = false)) ∨ ((ref12_Right a3) = false) := (orMap (bOrT ht60) (fun h => (orMap (bOrT h) (fun h => (orMap (bOrT h) (fun h => (of_decide_eq_true h)) (fun h => (of_decide_eq_true h)))) (fun h => (bNotT h)))) (fun h => (bNotT h)))
  refine CW.seq fun K62 hK62 => ?_
  refine CW.region ?_
  refine WR.batch 1 [(8, pt g22 0), (30, .agg #[.int .u8 0, .int .u64 0, .int .u64 0])] (by kernel_rfl) ?_
  have hb66 := (hb25.pure hc44).pure hc57
  refine WR.store (t := 56) (o := 0) (v := .agg #[.int .u8 0, .int .u64 0, .int .u64 0]) hb66 (by kernel_rfl) #[.int .u8 0, .int .u64 0, .int .u64 0] (by kernel_rfl) ?_
  intro w63 hb64 hc65
  have hz68 := hc65.size
  have hC67 := hC58.step1 hc65 (by omega)
  refine WR.batch 1 [(8, pt g22 0), (9, .int .i64 2)] (by kernel_rfl) ?_
  refine WR.fin (by kernel_rfl) ?_
  refine go hK62 ?_
  refine CW.ret ?_
  exact retC [.agg #[.int .u8 0, .int .u64 0, .int .u64 0], .int .i64 2] _ rfl ⟨resCell hb64 rfl (by kernel_rfl), rfl, trivial⟩ (⟨hC67, (congrArg (fun r : (TKnown × Int) => (.tuple #[TKnown.v r.1, .int .i64 r.2] : Value)) hs61).symm⟩)
 have hs69 := ifF ht60 hs
 replace ht60 : (((¬ (a0 < (1 : Int))) ∧ (¬ (a0 > (13 : Int)))) ∧ ((ref12_Right a2) = true)) ∧ ((ref12_Right a3) = true) := ⟨⟨⟨(of_decide_eq_false (bOrF (bOrF (bOrF ht60).1).1).1), (of_decide_eq_false (bOrF (bOrF (bOrF ht60).1).1).2)⟩, (bNotF (bOrF (bOrF ht60).1).2)⟩, (bNotF (bOrF ht60).2)⟩
 refine CW.skip ?_
 refine go hK32 ?_
 refine CW.seq fun K70 hK70 => ?_
 refine CW.seq fun K71 hK71 => ?_
 refine CW.region ?_
 refine WR.batch 1 [(0, .int .u8 a0), (1, .bool a1), (6, pt g2 0), (7, pt g12 0), (8, pt g22 0), (31, pt g2 0)] (by kernel_rfl) ?_
 have hb72 := (((hb5.pure hc17).pure hc27).pure hc44).pure hc57
 refine WR.load (dst := some 32) (t := 54) (o := 0) hb72 (by kernel_rfl) (.int .u8 a2.Kind) (by kernel_rfl) ?_
 refine WR.batch 2 [(0, .int .u8 a0), (1, .bool a1), (6, pt g2 0), (7, pt g12 0), (8, pt g22 0), (34, .bool (a2.Kind == (0 : Int)))] (by kernel_rfl) ?_
 refine WR.batch 3 [(0, .int .u8 a0), (1, .bool a1), (6, pt g2 0), (7, pt g12 0), (8, pt g22 0), (37, .bool ((a2.Kind == (0 : Int)) && (a0 != (12 : Int))))] (by generalize (a2.Kind == (0 : Int)) = b; cases b <;> kernel_rfl) ?_
 refine WR.batch 1 [(0, .int .u8 a0), (1, .bool a1), (6, pt g2 0), (7, pt g12 0), (8, pt g22 0), (38, .bool ((a2.Kind == (0 : Int)) && (a0 != (12 : Int))))] (by kernel_rfl) ?_
 refine WR.mergeW 16 [(0, .int .u8 a0), (1, .bool a1), (6, pt g2 0), (7, pt g12 0), (8, pt g22 0), (46, .bool (((a2.Kind == (0 : Int)) && (a0 != (12 : Int))) || ((a3.Kind == (0 : Int)) && (a0 != (13 : Int)))))] (fun w' => Chg [] w56 w') (fun Q' => ?_) ?_
 ·
  cases hg73 : ((a2.Kind == (0 : Int)) && (a0 != (12 : Int)))
  ·
   have hk75 := hg73
   replace hg73 : (a2.Kind ≠ (0 : Int)) ∨ (a0 = (12 : Int)) := (orMap (bAndF hg73) (fun h => (bEqF h)) (fun h => (bNeF h)))
   intro hM74
   refine WR.batch 1 [(0, .int .u8 a0), (1, .bool a1), (6, pt g2 0), (7, pt g12 0), (8, pt g22 0), (38, .bool false), (39, pt g12 0)] (by kernel_rfl) ?_
   have hb76 := ((hb15.pure hc27).pure hc44).pure hc57
   refine WR.load (dst := some 40) (t := 54) (o := 0) hb76 (by kernel_rfl) (.int .u8 a3.Kind) (by kernel_rfl) ?_
   refine WR.batch 2 [(0, .int .u8 a0), (1, .bool a1), (6, pt g2 0), (7, pt g12 0), (8, pt g22 0), (38, .bool false), (42, .bool (a3.Kind == (0 : Int)))] (by kernel_rfl) ?_
   refine WR.batch 3 [(0, .int .u8 a0), (1, .bool a1), (6, pt g2 0), (7, pt g12 0), (8, pt g22 0), (38, .bool false), (45, .bool ((a3.Kind == (0 : Int)) && (a0 != (13 : Int))))] (by generalize (a3.Kind == (0 : Int)) = b; cases b <;> kernel_rfl) ?_
   refine WR.batch 1 [(0, .int .u8 a0), (1, .bool a1), (6, pt g2 0), (7, pt g12 0), (8, pt g22 0), (46, .bool ((a3.Kind == (0 : Int)) && (a0 != (13 : Int))))] (by kernel_rfl) ?_
   exact WR.keep [0, 1, 6, 7, 8, 46] (by kernel_rfl) (hM74 _ (Chg.refl [] w56))
  ·
   have hk77 := hg73
   replace hg73 : (a2.Kind = (0 : Int)) ∧ (a0 ≠ (12 : Int)) := ⟨(bEqT (bAndT hg73).1), (bNeT (bAndT hg73).2)⟩
   intro hM74
   refine WR.batch 8 [(0, .int .u8 a0), (1, .bool a1), (6, pt g2 0), (7, pt g12 0), (8, pt g22 0), (46, .bool true)] (by kernel_rfl) ?_
   exact WR.keep [0, 1, 6, 7, 8, 46] (by kernel_rfl) (hM74 _ (Chg.refl [] w56))
 intro w78 hc79
 have hz81 := hc79.size
 have hC80 := hC58.pure hc79
 refine WR.fin (by kernel_rfl) ?_
 refine go hK71 ?_
 refine CW.cond ((((a2.Kind == (0 : Int)) && (a0 != (12 : Int))) || ((a3.Kind == (0 : Int)) && (a0 != (13 : Int))))) (by kernel_rfl) (fun ht82 => ?_) (fun ht82 => ?_)
 ·
  have hs83 := ifT ht82 hs69
  replace ht82 : ((a2.Kind = (0 : Int)) ∧ (a0 ≠ (12 : Int))) ∨ ((a3.Kind = (0 : Int)) ∧ (a0 ≠ (13 : Int))) := (orMap (bOrT ht82) (fun h => ⟨(bEqT (bAndT h).1), (bNeT (bAndT h).2)⟩) (fun h => ⟨(bEqT (bAndT h).1), (bNeT (bAndT h).2)⟩))
  refine CW.seq fun K84 hK84 => ?_
  refine CW.region ?_
  refine WR.batch 1 [(8, pt g22 0), (47, .agg #[.int .u8 0, .int .u64 0, .int .u64 0])] (by kernel_rfl) ?_
  have hb88 := ((hb25.pure hc44).pure hc57).pure hc79
  refine WR.store (t := 56) (o := 0) (v := .agg #[.int .u8 0, .int .u64 0, .int .u64 0]) hb88 (by kernel_rfl) #[.int .u8 0, .int .u64 0, .int .u64 0] (by kernel_rfl) ?_
  intro w85 hb86 hc87
  have hz90 := hc87.size
  have hC89 := hC80.step1 hc87 (by omega)
  refine WR.batch 1 [(8, pt g22 0), (9, .int .i64 110)] (by kernel_rfl) ?_
  refine WR.fin (by kernel_rfl) ?_
  refine go hK84 ?_
  refine CW.ret ?_
  exact retC [.agg #[.int .u8 0, .int .u64 0, .int .u64 0], .int .i64 110] _ rfl ⟨resCell hb86 rfl (by kernel_rfl), rfl, trivial⟩ (⟨hC89, (congrArg (fun r : (TKnown × Int) => (.tuple #[TKnown.v r.1, .int .i64 r.2] : Value)) hs83).symm⟩)
 have hs91 := ifF ht82 hs69
 replace ht82 : ((a2.Kind ≠ (0 : Int)) ∨ (a0 = (12 : Int))) ∧ ((a3.Kind ≠ (0 : Int)) ∨ (a0 = (13 : Int))) := ⟨(orMap (bAndF (bOrF ht82).1) (fun h => (bEqF h)) (fun h => (bNeF h))), (orMap (bAndF (bOrF ht82).2) (fun h => (bEqF h)) (fun h => (bNeF h)))⟩
 refine CW.skip ?_
 refine go hK70 ?_
 refine CW.seq fun K92 hK92 => ?_
 refine CW.region ?_
 have hb93 := hb72.pure hc79
 refine WR.load (dst := some 49) (t := 56) (o := 0) hb93 (by kernel_rfl) (.agg #[.int .u8 a2.Kind, .int .u64 a2.In.Lo, .int .u64 a2.In.Hi]) (by kernel_rfl) ?_
 obtain ⟨x94, hx95⟩ : ∃ x, ref12_Number a2 = x := ⟨_, rfl⟩
 have hs97 := letS hx95 hs91
 have hx96 : IU64 x94.1.Lo ∧ IU64 x94.1.Hi := by rw [← hx95]; exact ref12_Number_ok a2 ⟨(by omega), (by omega), (by omega)⟩ 
 refine WR.call (dst := some 50) (by kernel_rfl) (retE (g := (fun r : (TSpan × Bool) => (.tuple #[TSpan.v r.1, .bool r.2] : Value))) hx95 (ref12_Number_any a2 w78  ⟨(by omega), (by omega), (by omega)⟩ )) ?_
 rintro _ w98 hc99 rfl
 have hz101 := hc99.size
 have hC100 := hC80.pure hc99
 refine WR.batch 3 [(0, .int .u8 a0), (1, .bool a1), (6, pt g2 0), (7, pt g12 0), (8, pt g22 0), (51, .agg #[.int .u64 x94.1.Lo, .int .u64 x94.1.Hi]), (52, .bool x94.2)] (by kernel_rfl) ?_
 refine WR.alloc (dst := some 10) (e := 25) (by kernel_rfl) #[.int .u64 0, .int .u64 0] (by kernel_rfl) ?_
 intro g102 w103 hN104
 have hf106 : w.heap.size ≤ g102 := Nat.le_trans hC100.size hN104.fresh
 have hfr108 := hN104.fresh
 have hc107 := hN104.chg
 have hz110 := hc107.size
 have hC109 := hC100.pure hc107
 have hb105 := hN104.blk
 have hg111 := hb105.lt
 refine WR.store (t := 25) (o := 0) (v := .agg #[.int .u64 x94.1.Lo, .int .u64 x94.1.Hi]) hb105 (by kernel_rfl) #[.int .u64 x94.1.Lo, .int .u64 x94.1.Hi] (by kernel_rfl) ?_
 intro w112 hb113 hc114
 have hz116 := hc114.size
 have hC115 := hC109.step1 hc114 (by omega)
 refine WR.batch 1 [(0, .int .u8 a0), (1, .bool a1), (6, pt g2 0), (7, pt g12 0), (8, pt g22 0), (10, pt g102 0), (11, .bool x94.2)] (by kernel_rfl) ?_
 refine WR.fin (by kernel_rfl) ?_
 refine go hK92 ?_
 refine CW.seq fun K117 hK117 => ?_
 refine CW.region ?_
 have hb118 := ((((((hb15.pure hc27).pure hc44).pure hc57).pure hc79).pure hc99).pure hc107).chg1 hc114 (by omega)
 refine WR.load (dst := some 54) (t := 56) (o := 0) hb118 (by kernel_rfl) (.agg #[.int .u8 a3.Kind, .int .u64 a3.In.Lo, .int .u64 a3.In.Hi]) (by kernel_rfl) ?_
 obtain ⟨x119, hx120⟩ : ∃ x, ref12_Number a3 = x := ⟨_, rfl⟩
 have hs122 := letS hx120 hs97
 have hx121 : IU64 x119.1.Lo ∧ IU64 x119.1.Hi := by rw [← hx120]; exact ref12_Number_ok a3 ⟨(by omega), (by omega), (by omega)⟩ 
 refine WR.call (dst := some 55) (by kernel_rfl) (retE (g := (fun r : (TSpan × Bool) => (.tuple #[TSpan.v r.1, .bool r.2] : Value))) hx120 (ref12_Number_any a3 w112  ⟨(by omega), (by omega), (by omega)⟩ )) ?_
 rintro _ w123 hc124 rfl
 have hz126 := hc124.size
 have hC125 := hC115.pure hc124
 refine WR.batch 3 [(0, .int .u8 a0), (1, .bool a1), (6, pt g2 0), (7, pt g12 0), (8, pt g22 0), (10, pt g102 0), (11, .bool x94.2), (56, .agg #[.int .u64 x119.1.Lo, .int .u64 x119.1.Hi]), (57, .bool x119.2)] (by kernel_rfl) ?_
 refine WR.alloc (dst := some 12) (e := 25) (by kernel_rfl) #[.int .u64 0, .int .u64 0] (by kernel_rfl) ?_
 intro g127 w128 hN129
 have hf131 : w.heap.size ≤ g127 := Nat.le_trans hC125.size hN129.fresh
 have hfr133 := hN129.fresh
 have hc132 := hN129.chg
 have hz135 := hc132.size
 have hC134 := hC125.pure hc132
 have hb130 := hN129.blk
 have hg136 := hb130.lt
 refine WR.store (t := 25) (o := 0) (v := .agg #[.int .u64 x119.1.Lo, .int .u64 x119.1.Hi]) hb130 (by kernel_rfl) #[.int .u64 x119.1.Lo, .int .u64 x119.1.Hi] (by kernel_rfl) ?_
 intro w137 hb138 hc139
 have hz141 := hc139.size
 have hC140 := hC134.step1 hc139 (by omega)
 refine WR.batch 1 [(0, .int .u8 a0), (1, .bool a1), (6, pt g2 0), (7, pt g12 0), (8, pt g22 0), (10, pt g102 0), (11, .bool x94.2), (12, pt g127 0), (13, .bool x119.2)] (by kernel_rfl) ?_
 refine WR.fin (by kernel_rfl) ?_
 refine go hK117 ?_
 refine CW.seq fun K142 hK142 => ?_
 refine CW.seq fun K143 hK143 => ?_
 refine CW.region ?_
 refine WR.batch 2 [(0, .int .u8 a0), (1, .bool a1), (6, pt g2 0), (7, pt g12 0), (8, pt g22 0), (10, pt g102 0), (11, .bool x94.2), (12, pt g127 0), (13, .bool x119.2), (59, .bool (a0 == (12 : Int)))] (by kernel_rfl) ?_
 refine WR.fin (by kernel_rfl) ?_
 refine go hK143 ?_
 refine CW.join hK142 (fun F' w' => ∃ (v100 : Bool) (v101 : Int) (v102 : Int), F' = [(0, .int .u8 a0), (1, .bool a1), (6, pt g2 0), (8, pt g22 0), (10, pt g102 0), (11, .bool v100), (12, pt g127 0), (13, .bool x119.2)] ∧ Chg [] w w' ∧ Blk w' g2 #[.int .u8 a2.Kind, .int .u64 a2.In.Lo, .int .u64 a2.In.Hi] 56 ∧ Blk w' g12 #[.int .u8 a3.Kind, .int .u64 a3.In.Lo, .int .u64 a3.In.Hi] 56 ∧ Blk w' g22 #[.int .u8 0, .int .u64 0, .int .u64 0] 56 ∧ Blk w' g102 #[.int .u64 v101, .int .u64 v102] 25 ∧ Blk w' g127 #[.int .u64 x119.1.Lo, .int .u64 x119.1.Hi] 25 ∧ (IU64 v101) ∧ (IU64 v102) ∧ (ref12_Do a0 a1 a2 a3) = ref12_Do_J0 a0 a1 a2 a3 x94 x119 v100 v101 v102) ?_ ?_
 ·
  refine CW.cond ((a0 == (12 : Int))) (by kernel_rfl) (fun ht152 => ?_) (fun ht152 => ?_)
  ·
   have hs153 := ifT ht152 hs122
   replace ht152 : a0 = (12 : Int) := (bEqT ht152)
   refine CW.seq fun K154 hK154 => ?_
   refine CW.seq fun K155 hK155 => ?_
   refine CW.region ?_
   refine WR.batch 2 [(0, .int .u8 a0), (1, .bool a1), (6, pt g2 0), (7, pt g12 0), (8, pt g22 0), (10, pt g102 0), (12, pt g127 0), (13, .bool x119.2), (61, .bool (!a1))] (by kernel_rfl) ?_
   refine WR.fin (by kernel_rfl) ?_
   refine go hK155 ?_
   refine CW.cond ((!a1)) (by kernel_rfl) (fun ht156 => ?_) (fun ht156 => ?_)
   ·
    have hs157 := ifT ht156 hs153
    replace ht156 : a1 = false := (bNotT ht156)
    refine CW.seq fun K158 hK158 => ?_
    refine CW.region ?_
    have hb159 := ((hb118.pure hc124).pure hc132).chg1 hc139 (by omega)
    refine WR.load (dst := some 62) (t := 56) (o := 0) hb159 (by kernel_rfl) (.agg #[.int .u8 a3.Kind, .int .u64 a3.In.Lo, .int .u64 a3.In.Hi]) (by kernel_rfl) ?_
    have hb163 := ((((((((hb25.pure hc44).pure hc57).pure hc79).pure hc99).pure hc107).chg1 hc114 (by omega)).pure hc124).pure hc132).chg1 hc139 (by omega)
    refine WR.store (t := 56) (o := 0) (v := .agg #[.int .u8 a3.Kind, .int .u64 a3.In.Lo, .int .u64 a3.In.Hi]) hb163 (by kernel_rfl) #[.int .u8 a3.Kind, .int .u64 a3.In.Lo, .int .u64 a3.In.Hi] (by kernel_rfl) ?_
    intro w160 hb161 hc162
    have hz165 := hc162.size
    have hC164 := hC140.step1 hc162 (by omega)
    refine WR.batch 1 [(8, pt g22 0), (9, .int .i64 0)] (by kernel_rfl) ?_
    refine WR.fin (by kernel_rfl) ?_
    refine go hK158 ?_
    refine CW.ret ?_
    exact retC [.agg #[.int .u8 a3.Kind, .int .u64 a3.In.Lo, .int .u64 a3.In.Hi], .int .i64 0] _ rfl ⟨resCell hb161 rfl (by kernel_rfl), rfl, trivial⟩ (⟨hC164, (congrArg (fun r : (TKnown × Int) => (.tuple #[TKnown.v r.1, .int .i64 r.2] : Value)) hs157).symm⟩)
   have hs166 := ifF ht156 hs153
   replace ht156 : a1 = true := (bNotF ht156)
   refine CW.skip ?_
   refine go hK154 ?_
   refine CW.seq fun K167 hK167 => ?_
   refine CW.region ?_
   refine WR.load (dst := some 63) (t := 25) (o := 0) hb138 (by kernel_rfl) (.agg #[.int .u64 x119.1.Lo, .int .u64 x119.1.Hi]) (by kernel_rfl) ?_
   have hb171 := ((hb113.pure hc124).pure hc132).chg1 hc139 (by omega)
   refine WR.store (t := 25) (o := 0) (v := .agg #[.int .u64 x119.1.Lo, .int .u64 x119.1.Hi]) hb171 (by kernel_rfl) #[.int .u64 x119.1.Lo, .int .u64 x119.1.Hi] (by kernel_rfl) ?_
   intro w168 hb169 hc170
   have hz173 := hc170.size
   have hC172 := hC140.step1 hc170 (by omega)
   refine WR.fin (by kernel_rfl) ?_
   refine go hK167 ?_
   refine CW.region ?_
   refine WR.batch 2 [(0, .int .u8 a0), (1, .bool a1), (6, pt g2 0), (8, pt g22 0), (10, pt g102 0), (11, .bool x119.2), (12, pt g127 0), (13, .bool x119.2)] (by kernel_rfl) ?_
   refine WR.fin (by kernel_rfl) ?_
   have hb174 := ((((((hb93.pure hc99).pure hc107).chg1 hc114 (by omega)).pure hc124).pure hc132).chg1 hc139 (by omega)).chg1 hc170 (by omega)
   have hb175 := (((hb118.pure hc124).pure hc132).chg1 hc139 (by omega)).chg1 hc170 (by omega)
   have hb176 := (((((((((hb25.pure hc44).pure hc57).pure hc79).pure hc99).pure hc107).chg1 hc114 (by omega)).pure hc124).pure hc132).chg1 hc139 (by omega)).chg1 hc170 (by omega)
   have hb177 := hb138.chg1 hc170 (by omega)
   exact fun _ ha => ⟨_, ha.keep [0, 1, 6, 8, 10, 11, 12, 13] (F' := [(0, .int .u8 a0), (1, .bool a1), (6, pt g2 0), (8, pt g22 0), (10, pt g102 0), (11, .bool x119.2), (12, pt g127 0), (13, .bool x119.2)]) (by kernel_rfl), x119.2, x119.1.Lo, x119.1.Hi, rfl, hC172, hb174, hb175, hb176, hb169, hb177, (by omega), (by omega), hs166⟩
  have hs178 := ifF ht152 hs122
  replace ht152 : a0 ≠ (12 : Int) := (bEqF ht152)
  refine CW.skip ?_
  have hb179 := (((((hb93.pure hc99).pure hc107).chg1 hc114 (by omega)).pure hc124).pure hc132).chg1 hc139 (by omega)
  have hb180 := ((hb118.pure hc124).pure hc132).chg1 hc139 (by omega)
  have hb181 := ((((((((hb25.pure hc44).pure hc57).pure hc79).pure hc99).pure hc107).chg1 hc114 (by omega)).pure hc124).pure hc132).chg1 hc139 (by omega)
  have hb182 := ((hb113.pure hc124).pure hc132).chg1 hc139 (by omega)
  exact fun _ ha => ⟨_, ha.keep [0, 1, 6, 8, 10, 11, 12, 13] (F' := [(0, .int .u8 a0), (1, .bool a1), (6, pt g2 0), (8, pt g22 0), (10, pt g102 0), (11, .bool x94.2), (12, pt g127 0), (13, .bool x119.2)]) (by kernel_rfl), x94.2, x94.1.Lo, x94.1.Hi, rfl, hC140, hb179, hb180, hb181, hb182, hb138, (by omega), (by omega), hs178⟩
 rintro _ w146 ⟨v100, v101, v102, rfl, hC144, hb147, hb148, hb149, hb150, hb151, hr_v101, hr_v102, hsj145⟩
 have hz183 := hC144.size
 have hs184 := hsj145.trans (ref12_Do_J0.eq_1 _ _ _ _ _ _ _ _ _)
 have hg185 := hb147.lt
 have hg186 := hb148.lt
 have hg187 := hb149.lt
 have hg188 := hb150.lt
 have hg189 := hb151.lt
 refine CW.seq fun K190 hK190 => ?_
 refine CW.seq fun K191 hK191 => ?_
 refine CW.region ?_
 refine WR.batch 2 [(0, .int .u8 a0), (1, .bool a1), (6, pt g2 0), (8, pt g22 0), (10, pt g102 0), (11, .bool v100), (12, pt g127 0), (13, .bool x119.2), (66, .bool (a0 == (13 : Int)))] (by kernel_rfl) ?_
 refine WR.fin (by kernel_rfl) ?_
 refine go hK191 ?_
 refine CW.join hK190 (fun F' w' => ∃ (v200 : Bool) (v201 : Int) (v202 : Int), F' = [(0, .int .u8 a0), (1, .bool a1), (6, pt g2 0), (8, pt g22 0), (10, pt g102 0), (11, .bool v100), (12, pt g127 0), (13, .bool v200)] ∧ Chg [] w w' ∧ Blk w' g2 #[.int .u8 a2.Kind, .int .u64 a2.In.Lo, .int .u64 a2.In.Hi] 56 ∧ Blk w' g12 #[.int .u8 a3.Kind, .int .u64 a3.In.Lo, .int .u64 a3.In.Hi] 56 ∧ Blk w' g22 #[.int .u8 0, .int .u64 0, .int .u64 0] 56 ∧ Blk w' g102 #[.int .u64 v101, .int .u64 v102] 25 ∧ Blk w' g127 #[.int .u64 v201, .int .u64 v202] 25 ∧ (IU64 v201) ∧ (IU64 v202) ∧ (ref12_Do a0 a1 a2 a3) = ref12_Do_J1 a0 a1 a2 a3 x94 x119 v100 v101 v102 v200 v201 v202) ?_ ?_
 ·
  refine CW.cond ((a0 == (13 : Int))) (by kernel_rfl) (fun ht200 => ?_) (fun ht200 => ?_)
  ·
   have hs201 := ifT ht200 hs184
   replace ht200 : a0 = (13 : Int) := (bEqT ht200)
   refine CW.seq fun K202 hK202 => ?_
   refine CW.region ?_
   refine WR.load (dst := some 67) (t := 25) (o := 0) hb150 (by kernel_rfl) (.agg #[.int .u64 v101, .int .u64 v102]) (by kernel_rfl) ?_
   refine WR.store (t := 25) (o := 0) (v := .agg #[.int .u64 v101, .int .u64 v102]) hb151 (by kernel_rfl) #[.int .u64 v101, .int .u64 v102] (by kernel_rfl) ?_
   intro w203 hb204 hc205
   have hz207 := hc205.size
   have hC206 := hC144.step1 hc205 (by omega)
   refine WR.fin (by kernel_rfl) ?_
   refine go hK202 ?_
   refine CW.region ?_
   refine WR.batch 2 [(0, .int .u8 a0), (1, .bool a1), (6, pt g2 0), (8, pt g22 0), (10, pt g102 0), (11, .bool v100), (12, pt g127 0), (13, .bool v100)] (by kernel_rfl) ?_
   refine WR.fin (by kernel_rfl) ?_
   have hb208 := hb147.chg1 hc205 (by omega)
   have hb209 := hb148.chg1 hc205 (by omega)
   have hb210 := hb149.chg1 hc205 (by omega)
   have hb211 := hb150.chg1 hc205 (by omega)
   exact fun _ ha => ⟨_, ha.keep [0, 1, 6, 8, 10, 11, 12, 13] (F' := [(0, .int .u8 a0), (1, .bool a1), (6, pt g2 0), (8, pt g22 0), (10, pt g102 0), (11, .bool v100), (12, pt g127 0), (13, .bool v100)]) (by kernel_rfl), v100, v101, v102, rfl, hC206, hb208, hb209, hb210, hb211, hb204, (by omega), (by omega), hs201⟩
  have hs212 := ifF ht200 hs184
  replace ht200 : a0 ≠ (13 : Int) := (bEqF ht200)
  refine CW.skip ?_
  exact fun _ ha => ⟨_, ha.keep [0, 1, 6, 8, 10, 11, 12, 13] (F' := [(0, .int .u8 a0), (1, .bool a1), (6, pt g2 0), (8, pt g22 0), (10, pt g102 0), (11, .bool v100), (12, pt g127 0), (13, .bool x119.2)]) (by kernel_rfl), x119.2, x119.1.Lo, x119.1.Hi, rfl, hC144, hb147, hb148, hb149, hb150, hb151, (by omega), (by omega), hs212⟩
 rintro _ w194 ⟨v200, v201, v202, rfl, hC192, hb195, hb196, hb197, hb198, hb199, hr_v201, hr_v202, hsj193⟩
 have hz213 := hC192.size
 have hs214 := hsj193.trans (ref12_Do_J1.eq_1 _ _ _ _ _ _ _ _ _ _ _ _)
 have hg215 := hb195.lt
 have hg216 := hb196.lt
 have hg217 := hb197.lt
 have hg218 := hb198.lt
 have hg219 := hb199.lt
 refine CW.seq fun K220 hK220 => ?_
 refine CW.seq fun K221 hK221 => ?_
 refine CW.region ?_
 refine WR.batch 2 [(0, .int .u8 a0), (1, .bool a1), (6, pt g2 0), (8, pt g22 0), (10, pt g102 0), (11, .bool v100), (12, pt g127 0), (13, .bool v200), (70, .bool v100)] (by kernel_rfl) ?_
 refine WR.batch 2 [(0, .int .u8 a0), (1, .bool a1), (6, pt g2 0), (8, pt g22 0), (10, pt g102 0), (11, .bool v100), (12, pt g127 0), (13, .bool v200), (72, .bool (v100 && v200))] (by generalize v100 = b; cases b <;> kernel_rfl) ?_
 refine WR.fin (by kernel_rfl) ?_
 refine go hK221 ?_
 refine CW.cond ((v100 && v200)) (by kernel_rfl) (fun ht222 => ?_) (fun ht222 => ?_)
 ·
  have hs223 := ifT ht222 hs214
  replace ht222 : (v100 = true) ∧ (v200 = true) := ⟨(bAndT ht222).1, (bAndT ht222).2⟩
  refine CW.seq fun K224 hK224 => ?_
  refine CW.seq fun K225 hK225 => ?_
  refine CW.region ?_
  refine WR.batch 3 [(0, .int .u8 a0), (1, .bool a1), (8, pt g22 0), (10, pt g102 0), (12, pt g127 0), (75, .bool (a0 == (4 : Int)))] (by kernel_rfl) ?_
  refine WR.batch 3 [(0, .int .u8 a0), (1, .bool a1), (8, pt g22 0), (10, pt g102 0), (12, pt g127 0), (78, .bool ((a0 == (4 : Int)) || (a0 == (5 : Int))))] (by generalize (a0 == (4 : Int)) = b; cases b <;> kernel_rfl) ?_
  refine WR.batch 1 [(0, .int .u8 a0), (1, .bool a1), (8, pt g22 0), (10, pt g102 0), (12, pt g127 0), (79, .bool ((a0 == (4 : Int)) || (a0 == (5 : Int))))] (by kernel_rfl) ?_
  refine WR.mergeW 19 [(0, .int .u8 a0), (1, .bool a1), (8, pt g22 0), (10, pt g102 0), (12, pt g127 0), (91, .bool (((a0 == (4 : Int)) || (a0 == (5 : Int))) && ((v201 == (0 : Int)) || (a1 && (decide (v202 > (4294967295 : Int)))))))] (fun w' => Chg [] w194 w') (fun Q' => ?_) ?_
  ·
   cases hg226 : ((a0 == (4 : Int)) || (a0 == (5 : Int)))
   ·
    have hk228 := hg226
    replace hg226 : (a0 ≠ (4 : Int)) ∧ (a0 ≠ (5 : Int)) := ⟨(bEqF (bOrF hg226).1), (bEqF (bOrF hg226).2)⟩
    intro hM227
    refine WR.batch 12 [(0, .int .u8 a0), (1, .bool a1), (8, pt g22 0), (10, pt g102 0), (12, pt g127 0), (91, .bool false)] (by kernel_rfl) ?_
    exact WR.keep [0, 1, 8, 10, 12, 91] (by kernel_rfl) (hM227 _ (Chg.refl [] w194))
   ·
    have hk229 := hg226
    replace hg226 : (a0 = (4 : Int)) ∨ (a0 = (5 : Int)) := (orMap (bOrT hg226) (fun h => (bEqT h)) (fun h => (bEqT h)))
    intro hM227
    refine WR.batch 1 [(0, .int .u8 a0), (1, .bool a1), (8, pt g22 0), (10, pt g102 0), (12, pt g127 0), (79, .bool true), (80, pt g127 0)] (by kernel_rfl) ?_
    refine WR.load (dst := some 81) (t := 23) (o := 0) hb199 (by kernel_rfl) (.int .u64 v201) (by kernel_rfl) ?_
    refine WR.batch 2 [(0, .int .u8 a0), (1, .bool a1), (8, pt g22 0), (10, pt g102 0), (12, pt g127 0), (79, .bool true), (83, .bool (v201 == (0 : Int)))] (by kernel_rfl) ?_
    refine WR.mergeW 18 [(0, .int .u8 a0), (1, .bool a1), (8, pt g22 0), (10, pt g102 0), (12, pt g127 0), (79, .bool true), (90, .bool ((v201 == (0 : Int)) || (a1 && (decide (v202 > (4294967295 : Int))))))] (fun w' => Chg [] w194 w') (fun Q' => ?_) ?_
    ·
     cases hg230 : (v201 == (0 : Int))
     ·
      have hk232 := hg230
      replace hg230 : v201 ≠ (0 : Int) := (bEqF hg230)
      intro hM231
      refine WR.batch 2 [(0, .int .u8 a0), (1, .bool a1), (8, pt g22 0), (10, pt g102 0), (12, pt g127 0), (79, .bool true), (83, .bool false), (85, .bool a1)] (by kernel_rfl) ?_
      refine WR.mergeW 17 [(0, .int .u8 a0), (1, .bool a1), (8, pt g22 0), (10, pt g102 0), (12, pt g127 0), (79, .bool true), (83, .bool false), (89, .bool (a1 && (decide (v202 > (4294967295 : Int)))))] (fun w' => Chg [] w194 w') (fun Q' => ?_) ?_
      ·
       cases hg233 : a1
       ·
        have hk235 := hg233
        intro hM234
        refine WR.batch 4 [(0, .int .u8 a0), (1, .bool false), (8, pt g22 0), (10, pt g102 0), (12, pt g127 0), (79, .bool true), (83, .bool false), (89, .bool false)] (by kernel_rfl) ?_
        exact WR.keep [0, 1, 8, 10, 12, 79, 83, 89] (by kernel_rfl) (hM234 _ (Chg.refl [] w194))
       ·
        have hk236 := hg233
        intro hM234
        refine WR.batch 1 [(0, .int .u8 a0), (1, .bool true), (8, pt g22 0), (10, pt g102 0), (12, pt g127 0), (79, .bool true), (83, .bool false), (85, .bool true), (86, pt g127 1)] (by kernel_rfl) ?_
        refine WR.load (dst := some 87) (t := 23) (o := 1) hb199 (by kernel_rfl) (.int .u64 v202) (by kernel_rfl) ?_
        refine WR.batch 2 [(0, .int .u8 a0), (1, .bool true), (8, pt g22 0), (10, pt g102 0), (12, pt g127 0), (79, .bool true), (83, .bool false), (89, .bool (decide (v202 > (4294967295 : Int))))] (by kernel_rfl) ?_
        exact WR.keep [0, 1, 8, 10, 12, 79, 83, 89] (by kernel_rfl) (hM234 _ (Chg.refl [] w194))
      intro w237 hc238
      have hz240 := hc238.size
      have hC239 := hC192.pure hc238
      refine WR.batch 1 [(0, .int .u8 a0), (1, .bool a1), (8, pt g22 0), (10, pt g102 0), (12, pt g127 0), (79, .bool true), (90, .bool (a1 && (decide (v202 > (4294967295 : Int)))))] (by kernel_rfl) ?_
      exact WR.keep [0, 1, 8, 10, 12, 79, 90] (by kernel_rfl) (hM231 _ ((Chg.refl [] w194).pure hc238))
     ·
      have hk241 := hg230
      replace hg230 : v201 = (0 : Int) := (bEqT hg230)
      intro hM231
      refine WR.batch 7 [(0, .int .u8 a0), (1, .bool a1), (8, pt g22 0), (10, pt g102 0), (12, pt g127 0), (79, .bool true), (90, .bool true)] (by kernel_rfl) ?_
      exact WR.keep [0, 1, 8, 10, 12, 79, 90] (by kernel_rfl) (hM231 _ (Chg.refl [] w194))
    intro w242 hc243
    have hz245 := hc243.size
    have hC244 := hC192.pure hc243
    refine WR.batch 1 [(0, .int .u8 a0), (1, .bool a1), (8, pt g22 0), (10, pt g102 0), (12, pt g127 0), (91, .bool ((v201 == (0 : Int)) || (a1 && (decide (v202 > (4294967295 : Int))))))] (by kernel_rfl) ?_
    exact WR.keep [0, 1, 8, 10, 12, 91] (by kernel_rfl) (hM227 _ ((Chg.refl [] w194).pure hc243))
  intro w246 hc247
  have hz249 := hc247.size
  have hC248 := hC192.pure hc247
  refine WR.fin (by kernel_rfl) ?_
  refine go hK225 ?_
  refine CW.cond ((((a0 == (4 : Int)) || (a0 == (5 : Int))) && ((v201 == (0 : Int)) || (a1 && (decide (v202 > (4294967295 : Int))))))) (by kernel_rfl) (fun ht250 => ?_) (fun ht250 => ?_)
  ·
   have hs251 := ifT ht250 hs223
   replace ht250 : ((a0 = (4 : Int)) ∨ (a0 = (5 : Int))) ∧ ((v201 = (0 : Int)) ∨ ((a1 = true) ∧ (v202 > (4294967295 : Int)))) := ⟨(orMap (bOrT (bAndT ht250).1) (fun h => (bEqT h)) (fun h => (bEqT h))), (orMap (bOrT (bAndT ht250).2) (fun h => (bEqT h)) (fun h => ⟨(bAndT h).1, (of_decide_eq_true (bAndT h).2)⟩))⟩
   refine CW.seq fun K252 hK252 => ?_
   refine CW.region ?_
   refine WR.batch 1 [(8, pt g22 0), (92, .agg #[.int .u8 0, .int .u64 0, .int .u64 0])] (by kernel_rfl) ?_
   have hb256 := hb197.pure hc247
   refine WR.store (t := 56) (o := 0) (v := .agg #[.int .u8 0, .int .u64 0, .int .u64 0]) hb256 (by kernel_rfl) #[.int .u8 0, .int .u64 0, .int .u64 0] (by kernel_rfl) ?_
   intro w253 hb254 hc255
   have hz258 := hc255.size
   have hC257 := hC248.step1 hc255 (by omega)
   refine WR.batch 1 [(8, pt g22 0), (9, .int .i64 113)] (by kernel_rfl) ?_
   refine WR.fin (by kernel_rfl) ?_
   refine go hK252 ?_
   refine CW.ret ?_
   exact retC [.agg #[.int .u8 0, .int .u64 0, .int .u64 0], .int .i64 113] _ rfl ⟨resCell hb254 rfl (by kernel_rfl), rfl, trivial⟩ (⟨hC257, (congrArg (fun r : (TKnown × Int) => (.tuple #[TKnown.v r.1, .int .i64 r.2] : Value)) hs251).symm⟩)
  have hs259 := ifF ht250 hs223
  replace ht250 : ((a0 ≠ (4 : Int)) ∧ (a0 ≠ (5 : Int))) ∨ ((v201 ≠ (0 : Int)) ∧ ((a1 = false) ∨ (¬ (v202 > (4294967295 : Int))))) := (orMap (bAndF ht250) (fun h => ⟨(bEqF (bOrF h).1), (bEqF (bOrF h).2)⟩) (fun h => ⟨(bEqF (bOrF h).1), (orMap (bAndF (bOrF h).2) (fun h => h) (fun h => (of_decide_eq_false h)))⟩))
  refine CW.skip ?_
  refine go hK224 ?_
  refine CW.seq fun K260 hK260 => ?_
  refine CW.region ?_
  refine WR.batch 2 [(8, pt g22 0), (10, pt g102 0), (12, pt g127 0), (93, .int .u8 a0), (94, .bool a1)] (by kernel_rfl) ?_
  have hb261 := hb198.pure hc247
  refine WR.load (dst := some 95) (t := 25) (o := 0) hb261 (by kernel_rfl) (.agg #[.int .u64 v101, .int .u64 v102]) (by kernel_rfl) ?_
  have hb262 := hb199.pure hc247
  refine WR.load (dst := some 96) (t := 25) (o := 0) hb262 (by kernel_rfl) (.agg #[.int .u64 v201, .int .u64 v202]) (by kernel_rfl) ?_
  obtain ⟨x263, hx264⟩ : ∃ x, ref11_Do a0 a1 (⟨v101, v102⟩ : TSpan) (⟨v201, v202⟩ : TSpan) = x := ⟨_, rfl⟩
  have hs266 := letS hx264 hs259
  have hx265 : IU64 x263.Lo ∧ IU64 x263.Hi := by rw [← hx264]; exact ref11_Do_ok a0 a1 (⟨v101, v102⟩ : TSpan) (⟨v201, v202⟩ : TSpan) (by omega) (show IU64 v101 ∧ IU64 v102 from ⟨(by omega), (by omega)⟩) (show IU64 v201 ∧ IU64 v202 from ⟨(by omega), (by omega)⟩) 
  refine WR.call (dst := some 97) (by kernel_rfl) (retE (g := TSpan.v) hx264 (ref11_Do_any a0 a1 (⟨v101, v102⟩ : TSpan) (⟨v201, v202⟩ : TSpan) w246  (by omega) (show IU64 v101 ∧ IU64 v102 from ⟨(by omega), (by omega)⟩) (show IU64 v201 ∧ IU64 v202 from ⟨(by omega), (by omega)⟩) )) ?_
  rintro _ w267 hc268 rfl
  have hz270 := hc268.size
  have hC269 := hC248.pure hc268
  refine WR.batch 1 [(8, pt g22 0), (98, .agg #[.int .u8 1, .int .u64 x263.Lo, .int .u64 x263.Hi])] (by kernel_rfl) ?_
  have hb274 := (hb197.pure hc247).pure hc268
  refine WR.store (t := 56) (o := 0) (v := .agg #[.int .u8 1, .int .u64 x263.Lo, .int .u64 x263.Hi]) hb274 (by kernel_rfl) #[.int .u8 1, .int .u64 x263.Lo, .int .u64 x263.Hi] (by kernel_rfl) ?_
  intro w271 hb272 hc273
  have hz276 := hc273.size
  have hC275 := hC269.step1 hc273 (by omega)
  refine WR.batch 1 [(8, pt g22 0), (9, .int .i64 0)] (by kernel_rfl) ?_
  refine WR.fin (by kernel_rfl) ?_
  refine go hK260 ?_
  refine CW.ret ?_
  exact retC [.agg #[.int .u8 1, .int .u64 x263.Lo, .int .u64 x263.Hi], .int .i64 0] _ rfl ⟨resCell hb272 rfl (by kernel_rfl), rfl, trivial⟩ (⟨hC275, (congrArg (fun r : (TKnown × Int) => (.tuple #[TKnown.v r.1, .int .i64 r.2] : Value)) hs266).symm⟩)
 have hs277 := ifF ht222 hs214
 replace ht222 : (v100 = false) ∨ (v200 = false) := (orMap (bAndF ht222) (fun h => h) (fun h => h))
 refine CW.skip ?_
 refine go hK220 ?_
 refine CW.seq fun K278 hK278 => ?_
 refine CW.seq fun K279 hK279 => ?_
 refine CW.region ?_
 refine WR.batch 2 [(0, .int .u8 a0), (1, .bool a1), (6, pt g2 0), (8, pt g22 0), (12, pt g127 0), (13, .bool v200), (100, .bool v100)] (by kernel_rfl) ?_
 refine WR.batch 3 [(0, .int .u8 a0), (1, .bool a1), (6, pt g2 0), (8, pt g22 0), (12, pt g127 0), (103, .bool (v100 || (!v200)))] (by generalize v100 = b; cases b <;> kernel_rfl) ?_
 refine WR.batch 1 [(0, .int .u8 a0), (1, .bool a1), (6, pt g2 0), (8, pt g22 0), (12, pt g127 0), (104, .bool (v100 || (!v200)))] (by kernel_rfl) ?_
 refine WR.batch 2 [(0, .int .u8 a0), (6, pt g2 0), (8, pt g22 0), (12, pt g127 0), (106, .bool ((v100 || (!v200)) || a1))] (by generalize (v100 || (!v200)) = b; cases b <;> kernel_rfl) ?_
 refine WR.batch 1 [(0, .int .u8 a0), (6, pt g2 0), (8, pt g22 0), (12, pt g127 0), (107, .bool ((v100 || (!v200)) || a1))] (by kernel_rfl) ?_
 refine WR.mergeW 16 [(0, .int .u8 a0), (6, pt g2 0), (8, pt g22 0), (12, pt g127 0), (114, .bool (((v100 || (!v200)) || a1) || ((a0 != (1 : Int)) && (a0 != (2 : Int)))))] (fun w' => Chg [] w194 w') (fun Q' => ?_) ?_
 ·
  cases hg280 : ((v100 || (!v200)) || a1)
  ·
   have hk282 := hg280
   replace hg280 : ((v100 = false) ∧ (v200 = true)) ∧ (a1 = false) := ⟨⟨(bOrF (bOrF hg280).1).1, (bNotF (bOrF (bOrF hg280).1).2)⟩, (bOrF hg280).2⟩
   intro hM281
   refine WR.batch 3 [(0, .int .u8 a0), (6, pt g2 0), (8, pt g22 0), (12, pt g127 0), (107, .bool false), (110, .bool (a0 != (1 : Int)))] (by kernel_rfl) ?_
   refine WR.batch 3 [(0, .int .u8 a0), (6, pt g2 0), (8, pt g22 0), (12, pt g127 0), (107, .bool false), (113, .bool ((a0 != (1 : Int)) && (a0 != (2 : Int))))] (by generalize (a0 != (1 : Int)) = b; cases b <;> kernel_rfl) ?_
   refine WR.batch 1 [(0, .int .u8 a0), (6, pt g2 0), (8, pt g22 0), (12, pt g127 0), (114, .bool ((a0 != (1 : Int)) && (a0 != (2 : Int))))] (by kernel_rfl) ?_
   exact WR.keep [0, 6, 8, 12, 114] (by kernel_rfl) (hM281 _ (Chg.refl [] w194))
  ·
   have hk283 := hg280
   replace hg280 : ((v100 = true) ∨ (v200 = false)) ∨ (a1 = true) := (orMap (bOrT hg280) (fun h => (orMap (bOrT h) (fun h => h) (fun h => (bNotT h)))) (fun h => h))
   intro hM281
   refine WR.batch 7 [(0, .int .u8 a0), (6, pt g2 0), (8, pt g22 0), (12, pt g127 0), (114, .bool true)] (by kernel_rfl) ?_
   exact WR.keep [0, 6, 8, 12, 114] (by kernel_rfl) (hM281 _ (Chg.refl [] w194))
 intro w284 hc285
 have hz287 := hc285.size
 have hC286 := hC192.pure hc285
 refine WR.batch 1 [(0, .int .u8 a0), (6, pt g2 0), (8, pt g22 0), (12, pt g127 0), (115, .bool (((v100 || (!v200)) || a1) || ((a0 != (1 : Int)) && (a0 != (2 : Int)))))] (by kernel_rfl) ?_
 refine WR.mergeW 28 [(0, .int .u8 a0), (6, pt g2 0), (8, pt g22 0), (12, pt g127 0), (126, .bool ((((v100 || (!v200)) || a1) || ((a0 != (1 : Int)) && (a0 != (2 : Int)))) || ((a2.Kind == (3 : Int)) && (v201 != v202))))] (fun w' => Chg [] w284 w') (fun Q' => ?_) ?_
 ·
  cases hg288 : (((v100 || (!v200)) || a1) || ((a0 != (1 : Int)) && (a0 != (2 : Int))))
  ·
   have hk290 := hg288
   replace hg288 : (((v100 = false) ∧ (v200 = true)) ∧ (a1 = false)) ∧ ((a0 = (1 : Int)) ∨ (a0 = (2 : Int))) := ⟨⟨⟨(bOrF (bOrF (bOrF hg288).1).1).1, (bNotF (bOrF (bOrF (bOrF hg288).1).1).2)⟩, (bOrF (bOrF hg288).1).2⟩, (orMap (bAndF (bOrF hg288).2) (fun h => (bNeF h)) (fun h => (bNeF h)))⟩
   intro hM289
   refine WR.batch 1 [(0, .int .u8 a0), (6, pt g2 0), (8, pt g22 0), (12, pt g127 0), (115, .bool false), (116, pt g2 0)] (by kernel_rfl) ?_
   have hb291 := hb195.pure hc285
   refine WR.load (dst := some 117) (t := 54) (o := 0) hb291 (by kernel_rfl) (.int .u8 a2.Kind) (by kernel_rfl) ?_
   refine WR.batch 2 [(0, .int .u8 a0), (6, pt g2 0), (8, pt g22 0), (12, pt g127 0), (115, .bool false), (119, .bool (a2.Kind == (3 : Int)))] (by kernel_rfl) ?_
   refine WR.mergeW 27 [(0, .int .u8 a0), (6, pt g2 0), (8, pt g22 0), (12, pt g127 0), (115, .bool false), (125, .bool ((a2.Kind == (3 : Int)) && (v201 != v202)))] (fun w' => Chg [] w284 w') (fun Q' => ?_) ?_
   ·
    cases hg292 : (a2.Kind == (3 : Int))
    ·
     have hk294 := hg292
     replace hg292 : a2.Kind ≠ (3 : Int) := (bEqF hg292)
     intro hM293
     refine WR.batch 6 [(0, .int .u8 a0), (6, pt g2 0), (8, pt g22 0), (12, pt g127 0), (115, .bool false), (125, .bool false)] (by kernel_rfl) ?_
     exact WR.keep [0, 6, 8, 12, 115, 125] (by kernel_rfl) (hM293 _ (Chg.refl [] w284))
    ·
     have hk295 := hg292
     replace hg292 : a2.Kind = (3 : Int) := (bEqT hg292)
     intro hM293
     refine WR.batch 1 [(0, .int .u8 a0), (6, pt g2 0), (8, pt g22 0), (12, pt g127 0), (115, .bool false), (119, .bool true), (120, pt g127 0)] (by kernel_rfl) ?_
     have hb296 := hb199.pure hc285
     refine WR.load (dst := some 121) (t := 23) (o := 0) hb296 (by kernel_rfl) (.int .u64 v201) (by kernel_rfl) ?_
     refine WR.batch 1 [(0, .int .u8 a0), (6, pt g2 0), (8, pt g22 0), (12, pt g127 0), (115, .bool false), (119, .bool true), (121, .int .u64 v201), (122, pt g127 1)] (by kernel_rfl) ?_
     refine WR.load (dst := some 123) (t := 23) (o := 1) hb296 (by kernel_rfl) (.int .u64 v202) (by kernel_rfl) ?_
     refine WR.batch 2 [(0, .int .u8 a0), (6, pt g2 0), (8, pt g22 0), (12, pt g127 0), (115, .bool false), (125, .bool (v201 != v202))] (by kernel_rfl) ?_
     exact WR.keep [0, 6, 8, 12, 115, 125] (by kernel_rfl) (hM293 _ (Chg.refl [] w284))
   intro w297 hc298
   have hz300 := hc298.size
   have hC299 := hC286.pure hc298
   refine WR.batch 1 [(0, .int .u8 a0), (6, pt g2 0), (8, pt g22 0), (12, pt g127 0), (126, .bool ((a2.Kind == (3 : Int)) && (v201 != v202)))] (by kernel_rfl) ?_
   exact WR.keep [0, 6, 8, 12, 126] (by kernel_rfl) (hM289 _ ((Chg.refl [] w284).pure hc298))
  ·
   have hk301 := hg288
   replace hg288 : (((v100 = true) ∨ (v200 = false)) ∨ (a1 = true)) ∨ ((a0 ≠ (1 : Int)) ∧ (a0 ≠ (2 : Int))) := (orMap (bOrT hg288) (fun h => (orMap (bOrT h) (fun h => (orMap (bOrT h) (fun h => h) (fun h => (bNotT h)))) (fun h => h))) (fun h => ⟨(bNeT (bAndT h).1), (bNeT (bAndT h).2)⟩))
   intro hM289
   refine WR.batch 11 [(0, .int .u8 a0), (6, pt g2 0), (8, pt g22 0), (12, pt g127 0), (126, .bool true)] (by kernel_rfl) ?_
   exact WR.keep [0, 6, 8, 12, 126] (by kernel_rfl) (hM289 _ (Chg.refl [] w284))
 intro w302 hc303
 have hz305 := hc303.size
 have hC304 := hC286.pure hc303
 refine WR.fin (by kernel_rfl) ?_
 refine go hK279 ?_
 refine CW.cond (((((v100 || (!v200)) || a1) || ((a0 != (1 : Int)) && (a0 != (2 : Int)))) || ((a2.Kind == (3 : Int)) && (v201 != v202)))) (by kernel_rfl) (fun ht306 => ?_) (fun ht306 => ?_)
 ·
  have hs307 := ifT ht306 hs277
  replace ht306 : ((((v100 = true) ∨ (v200 = false)) ∨ (a1 = true)) ∨ ((a0 ≠ (1 : Int)) ∧ (a0 ≠ (2 : Int)))) ∨ ((a2.Kind = (3 : Int)) ∧ (v201 ≠ v202)) := (orMap (bOrT ht306) (fun h => (orMap (bOrT h) (fun h => (orMap (bOrT h) (fun h => (orMap (bOrT h) (fun h => h) (fun h => (bNotT h)))) (fun h => h))) (fun h => ⟨(bNeT (bAndT h).1), (bNeT (bAndT h).2)⟩))) (fun h => ⟨(bEqT (bAndT h).1), (bNeT (bAndT h).2)⟩))
  refine CW.seq fun K308 hK308 => ?_
  refine CW.region ?_
  refine WR.batch 1 [(8, pt g22 0), (127, .agg #[.int .u8 0, .int .u64 0, .int .u64 0])] (by kernel_rfl) ?_
  have hb312 := (hb197.pure hc285).pure hc303
  refine WR.store (t := 56) (o := 0) (v := .agg #[.int .u8 0, .int .u64 0, .int .u64 0]) hb312 (by kernel_rfl) #[.int .u8 0, .int .u64 0, .int .u64 0] (by kernel_rfl) ?_
  intro w309 hb310 hc311
  have hz314 := hc311.size
  have hC313 := hC304.step1 hc311 (by omega)
  refine WR.batch 1 [(8, pt g22 0), (9, .int .i64 114)] (by kernel_rfl) ?_
  refine WR.fin (by kernel_rfl) ?_
  refine go hK308 ?_
  refine CW.ret ?_
  exact retC [.agg #[.int .u8 0, .int .u64 0, .int .u64 0], .int .i64 114] _ rfl ⟨resCell hb310 rfl (by kernel_rfl), rfl, trivial⟩ (⟨hC313, (congrArg (fun r : (TKnown × Int) => (.tuple #[TKnown.v r.1, .int .i64 r.2] : Value)) hs307).symm⟩)
 have hs315 := ifF ht306 hs277
 replace ht306 : ((((v100 = false) ∧ (v200 = true)) ∧ (a1 = false)) ∧ ((a0 = (1 : Int)) ∨ (a0 = (2 : Int)))) ∧ ((a2.Kind ≠ (3 : Int)) ∨ (v201 = v202)) := ⟨⟨⟨⟨(bOrF (bOrF (bOrF (bOrF ht306).1).1).1).1, (bNotF (bOrF (bOrF (bOrF (bOrF ht306).1).1).1).2)⟩, (bOrF (bOrF (bOrF ht306).1).1).2⟩, (orMap (bAndF (bOrF (bOrF ht306).1).2) (fun h => (bNeF h)) (fun h => (bNeF h)))⟩, (orMap (bAndF (bOrF ht306).2) (fun h => (bEqF h)) (fun h => (bNeF h)))⟩
 refine CW.skip ?_
 refine go hK278 ?_
 refine CW.seq fun K316 hK316 => ?_
 refine CW.keep [0, 6, 8, 12] (F' := [(0, .int .u8 a0), (6, pt g2 0), (8, pt g22 0), (12, pt g127 0)]) (by kernel_rfl) ?_
 refine CW.regionG 7 [some (pt g2 0), some (.int .u8 a2.Kind), some (.int .u8 a0), some (pt g2 1), some (.agg #[.int .u64 a2.In.Lo, .int .u64 a2.In.Hi]), some (.agg #[.int .u64 v201, .int .u64 v202]), some (.agg #[.int .u64 (ref11_Do a0 false a2.In (⟨v201, v202⟩ : TSpan)).Lo, .int .u64 (ref11_Do a0 false a2.In (⟨v201, v202⟩ : TSpan)).Hi])] (fun u => [(128, pt g2 0), (129, .int .u8 a2.Kind), (130, .int .u8 a0), (131, pt g2 1), (132, .agg #[.int .u64 a2.In.Lo, .int .u64 a2.In.Hi]), (133, .agg #[.int .u64 v201, .int .u64 v202]), (134, .agg #[.int .u64 (ref11_Do a0 false a2.In (⟨v201, v202⟩ : TSpan)).Lo, .int .u64 (ref11_Do a0 false a2.In (⟨v201, v202⟩ : TSpan)).Hi]), (0, .int .u8 a0), (6, pt g2 0), (8, pt g22 0), (12, pt g127 0)]) (fun _ => by kernel_rfl) (by kernel_rfl) [] (fun _ _ => True) (fun _ => trivial) (fun _ _ _ _ _ _ _ => trivial) [] [] (by kernel_rfl) (fun w' => Chg [] w302 w') (fun _ _ _ => True) (fun j x w hj h => absurd hj (by simp)) (by kernel_rfl) (by kernel_rfl) (by kernel_rfl) (by kernel_rfl) (Chg.drew w302) (fun _ _ _ h h' => h.step h' (fun t ht => .inl (cL_sub t ht))) (fun _ _ _ _ _ _ _ _ => trivial) (obsG_batch 1 0 6 (fun _ _ => by kernel_rfl) (by kernel_rfl) ⟨?_, (obsG_batch 2 2 3 (fun _ _ => by kernel_rfl) (by kernel_rfl) ⟨?_, ⟨?_, ⟨?_, trivial⟩⟩⟩)⟩) ?_
 ·
  intro u317 w318 hW319 _ hp320 hal321
  have hz324 := hW319.size
  have hC323 := hC304.pure hW319
  have hb325 := ((hb195.pure hc285).pure hc303).pure hW319
  refine WR.load (dst := some 129) (t := 54) (o := 0) hb325 (by kernel_rfl) (.int .u8 a2.Kind) (by kernel_rfl) ?_
  refine WR.fin (by kernel_rfl) ?_
  exact fun _ ha => ⟨Chg.refl _ _, _, ha, ⟨⟨fun h => absurd h (by decide), alNone (by decide)⟩, rfl⟩⟩
 ·
  intro u326 w327 hW328 _ hp329 hal330
  have hz333 := hW328.size
  have hC332 := hC304.pure hW328
  have hb334 := ((hb195.pure hc285).pure hc303).pure hW328
  refine WR.load (dst := some 132) (t := 25) (o := 1) hb334 (by kernel_rfl) (.agg #[.int .u64 a2.In.Lo, .int .u64 a2.In.Hi]) (by kernel_rfl) ?_
  refine WR.fin (by kernel_rfl) ?_
  exact fun _ ha => ⟨Chg.refl _ _, _, ha, ⟨⟨fun h => absurd h (by decide), alNone (by decide)⟩, rfl⟩⟩
 ·
  intro u335 w336 hW337 _ hp338 hal339
  have hz342 := hW337.size
  have hC341 := hC304.pure hW337
  have hb343 := ((hb199.pure hc285).pure hc303).pure hW337
  refine WR.load (dst := some 133) (t := 25) (o := 0) hb343 (by kernel_rfl) (.agg #[.int .u64 v201, .int .u64 v202]) (by kernel_rfl) ?_
  refine WR.fin (by kernel_rfl) ?_
  exact fun _ ha => ⟨Chg.refl _ _, _, ha, ⟨⟨fun h => absurd h (by decide), alNone (by decide)⟩, rfl⟩⟩
 ·
  intro u344 w345 hW346 _ hp347 hal348
  have hz351 := hW346.size
  have hC350 := hC304.pure hW346
  have hx352 : IU64 (ref11_Do a0 false a2.In (⟨v201, v202⟩ : TSpan)).Lo ∧ IU64 (ref11_Do a0 false a2.In (⟨v201, v202⟩ : TSpan)).Hi := ref11_Do_ok a0 false a2.In (⟨v201, v202⟩ : TSpan) (by omega) ⟨(by omega), (by omega)⟩ (show IU64 v201 ∧ IU64 v202 from ⟨(by omega), (by omega)⟩) 
  have hx353 : IU64 (ref11_Do a0 false a2.In (⟨v201, v202⟩ : TSpan)).Lo ∧ IU64 (ref11_Do a0 false a2.In (⟨v201, v202⟩ : TSpan)).Hi := ref11_Do_ok a0 false a2.In (⟨v201, v202⟩ : TSpan) (by omega) ⟨(by omega), (by omega)⟩ (show IU64 v201 ∧ IU64 v202 from ⟨(by omega), (by omega)⟩) 
  refine WR.call (dst := some 134) (by kernel_rfl) (ref11_Do_any a0 false a2.In (⟨v201, v202⟩ : TSpan) w345  (by omega) ⟨(by omega), (by omega)⟩ (show IU64 v201 ∧ IU64 v202 from ⟨(by omega), (by omega)⟩) ) ?_
  rintro _ w354 hc355 rfl
  have hz357 := hc355.size
  have hC356 := hC350.pure hc355
  refine WR.fin (by kernel_rfl) ?_
  exact fun _ ha => ⟨hc355, _, ha, ⟨⟨fun h => absurd h (by decide), alNone (by decide)⟩, rfl⟩⟩
 intro u358 w359 hW360 _ _ _
 have hz365 := hW360.size
 have hC364 := hC304.pure hW360
 have hx366 : IU64 (ref11_Do a0 false a2.In (⟨v201, v202⟩ : TSpan)).Lo ∧ IU64 (ref11_Do a0 false a2.In (⟨v201, v202⟩ : TSpan)).Hi := ref11_Do_ok a0 false a2.In (⟨v201, v202⟩ : TSpan) (by omega) ⟨(by omega), (by omega)⟩ (show IU64 v201 ∧ IU64 v202 from ⟨(by omega), (by omega)⟩) 
 refine WR.keep [8, 129, 134] (F' := [(8, pt g22 0), (129, .int .u8 a2.Kind), (134, .agg #[.int .u64 (ref11_Do a0 false a2.In (⟨v201, v202⟩ : TSpan)).Lo, .int .u64 (ref11_Do a0 false a2.In (⟨v201, v202⟩ : TSpan)).Hi])]) (by kernel_rfl) ?_
 refine WR.batch 1 [(8, pt g22 0), (135, .agg #[.int .u8 a2.Kind, .int .u64 (ref11_Do a0 false a2.In (⟨v201, v202⟩ : TSpan)).Lo, .int .u64 (ref11_Do a0 false a2.In (⟨v201, v202⟩ : TSpan)).Hi])] (by kernel_rfl) ?_
 have hb370 := ((hb197.pure hc285).pure hc303).pure hW360
 refine WR.store (t := 56) (o := 0) (v := .agg #[.int .u8 a2.Kind, .int .u64 (ref11_Do a0 false a2.In (⟨v201, v202⟩ : TSpan)).Lo, .int .u64 (ref11_Do a0 false a2.In (⟨v201, v202⟩ : TSpan)).Hi]) hb370 (by kernel_rfl) #[.int .u8 a2.Kind, .int .u64 (ref11_Do a0 false a2.In (⟨v201, v202⟩ : TSpan)).Lo, .int .u64 (ref11_Do a0 false a2.In (⟨v201, v202⟩ : TSpan)).Hi] (by kernel_rfl) ?_
 intro w367 hb368 hc369
 have hz372 := hc369.size
 have hC371 := hC364.step1 hc369 (by omega)
 refine WR.batch 1 [(8, pt g22 0), (9, .int .i64 0)] (by kernel_rfl) ?_
 refine WR.fin (by kernel_rfl) ?_
 refine go hK316 ?_
 refine CW.ret ?_
 exact retC [.agg #[.int .u8 a2.Kind, .int .u64 (ref11_Do a0 false a2.In (⟨v201, v202⟩ : TSpan)).Lo, .int .u64 (ref11_Do a0 false a2.In (⟨v201, v202⟩ : TSpan)).Hi], .int .i64 0] _ rfl ⟨resCell hb368 rfl (by kernel_rfl), rfl, trivial⟩ (⟨hC371, (congrArg (fun r : (TKnown × Int) => (.tuple #[TKnown.v r.1, .int .i64 r.2] : Value)) hs315).symm⟩)
end Go.V
