import Derived.Test.YtjiagljaipadmaaProg
import Derived.Test.YtjiagljaipadmaaRa
namespace Go.V
open Go.RowKit Go.Proofs
/-- all bits below the highest of n. -/
def fillN (n : Int) : Int := if n = 0 then 0 else ((2 ^ (Nat.log2 n.toNat + 1) : Nat) : Int) - 1
theorem fillN_rng (n : Int) (h : 0 ≤ n ∧ n ≤ 18446744073709551615) : 0 ≤ fillN n ∧ fillN n ≤ 18446744073709551615 := by
  unfold fillN
  split
  · omega
  · have h1 : Nat.log2 n.toNat < 64 := (Nat.log2_lt (by omega)).2 (by omega)
    have h2 : 2 ^ (Nat.log2 n.toNat + 1) ≤ 2 ^ 64 := Nat.pow_le_pow_right (by decide) (by omega)
    have h3 : 0 < 2 ^ (Nat.log2 n.toNat + 1) := Nat.two_pow_pos _
    omega
theorem fill_step {n : Int} (hn : 0 ≤ n ∧ n ≤ 18446744073709551615) {k : Nat} (h : ((2 ^ k : Nat) : Int) - 1 < n) : k < 64 ∧ k ≤ Nat.log2 n.toNat ∧ (IntKind.u64.wrap (IntKind.u64.wrap (2 * (((2 ^ k : Nat) : Int) - 1)) + 1)) = ((2 ^ (k + 1) : Nat) : Int) - 1 := by
  have hk : k ≤ Nat.log2 n.toNat := (Nat.le_log2 (by have := Nat.two_pow_pos k; omega)).2 (by omega)
  have h1 : Nat.log2 n.toNat < 64 := (Nat.log2_lt (by have := Nat.two_pow_pos k; omega)).2 (by omega)
  have h2 : 2 ^ (k + 1) ≤ 2 ^ 64 := Nat.pow_le_pow_right (by decide) (by omega)
  have h3 : 2 ^ (k + 1) = 2 * 2 ^ k := by rw [Nat.pow_succ, Nat.mul_comm]
  have h4 := Nat.two_pow_pos k
  refine ⟨by omega, hk, ?_⟩
  rw [wrapU64_eq, wrapU64_eq]
  omega
theorem fill_done {n : Int} (hn : 0 ≤ n ∧ n ≤ 18446744073709551615) {k : Nat} (hk : k = 0 ∨ k ≤ Nat.log2 n.toNat + 1) (hk0 : n = 0 → k = 0) (h : ¬ ((2 ^ k : Nat) : Int) - 1 < n) : fillN n = ((2 ^ k : Nat) : Int) - 1 := by
  unfold fillN
  split
  · rename_i h0; rw [hk0 h0]; rfl
  · rename_i h0
    have h1 : Nat.log2 n.toNat < k := (Nat.log2_lt (by omega)).2 (by omega)
    rw [show k = Nat.log2 n.toNat + 1 by omega]

theorem ref11_filled_any (a0 : Int) (w : World) (h_a0 : 0 ≤ a0 ∧ a0 ≤ 18446744073709551615) : Calls Try.prog 121 #[.int .u64 a0] w (RetV w (.int .u64 (fillN a0))) := by
 refine calls_of_CW Try.func121 rfl (n := 11) Try.ntmps121 (by kernel_rfl) [0] (F := [(0, .int .u64 a0)]) (by kernel_rfl) ?_
 refine CW.seq fun K1 hK1 => ?_
 refine CW.region ?_
 refine WR.batch 1 [(0, .int .u64 a0)] (by kernel_rfl) ?_
 refine WR.fin (by kernel_rfl) ?_
 refine go hK1 ?_
 refine CW.seq fun K2 hK2 => ?_
 refine CW.region ?_
 refine WR.batch 1 [(0, .int .u64 a0), (3, .int .u64 0)] (by kernel_rfl) ?_
 refine WR.fin (by kernel_rfl) ?_
 refine go hK2 ?_
 refine CW.seq fun K3 hK3 => ?_
 refine CW.block ?_
 refine CW.loop (σ := Nat) (fun k w4 => Chg [] w w4 ∧ (k = 0 ∨ k ≤ Nat.log2 a0.toNat + 1) ∧ (a0 = 0 → k = 0)) (fun k => [(0, .int .u64 a0), (3, .int .u64 (((2 ^ k : Nat) : Int) - 1))]) (fun k => 64 - k) (0) ⟨Chg.refl _ _, (.inl rfl), (fun _ => rfl)⟩ [0, 3] (by kernel_rfl) ?_
 rintro k w4 ⟨hC5, hk, hk0⟩
 refine CW.seq fun K6 hK6 => ?_
 refine CW.seq fun K7 hK7 => ?_
 refine CW.region ?_
 refine WR.batch 3 [(0, .int .u64 a0), (3, .int .u64 (((2 ^ k : Nat) : Int) - 1)), (6, .bool (decide ((((2 ^ k : Nat) : Int) - 1) < a0)))] (by kernel_rfl) ?_
 refine WR.fin (by kernel_rfl) ?_
 refine go hK7 ?_
 refine CW.cond (decide ((((2 ^ k : Nat) : Int) - 1) < a0)) (by kernel_rfl) (fun ht8 => ?_) (fun ht8 => ?_)
 ·
  replace ht8 : (((2 ^ k : Nat) : Int) - 1) < a0 := (of_decide_eq_true ht8)
  refine CW.skip ?_
  refine go hK6 ?_
  refine CW.block ?_
  refine CW.region ?_
  refine WR.batch 4 [(0, .int .u64 a0), (3, .int .u64 (IntKind.u64.wrap ((IntKind.u64.wrap ((2 : Int) * (((2 ^ k : Nat) : Int) - 1))) + (1 : Int))))] (by kernel_rfl) ?_
  refine WR.fin (by kernel_rfl) ?_
  obtain ⟨hk1, hk2, hk3⟩ := fill_step h_a0 (k := k) (by assumption)
  exact fun _ ha => ⟨k + 1, ⟨hC5, (.inr (by omega)), (fun h => by have := Nat.two_pow_pos k; omega)⟩, (by dsimp only; omega), (ha.cast (show ([(0, .int .u64 a0), (3, .int .u64 (IntKind.u64.wrap ((IntKind.u64.wrap ((2 : Int) * (((2 ^ k : Nat) : Int) - 1))) + (1 : Int))))] : PF) = [(0, .int .u64 a0), (3, .int .u64 (((2 ^ (k + 1) : Nat) : Int) - 1))] from by rw [hk3])).keep [0, 3] (by kernel_rfl)⟩
 replace ht8 : ¬ ((((2 ^ k : Nat) : Int) - 1) < a0) := (of_decide_eq_false ht8)
 refine CW.exit ?_
 refine go hK3 ?_
 refine CW.seq fun K9 hK9 => ?_
 refine CW.region ?_
 refine WR.batch 2 [(2, .int .u64 (((2 ^ k : Nat) : Int) - 1))] (by kernel_rfl) ?_
 refine WR.fin (by kernel_rfl) ?_
 refine go hK9 ?_
 refine CW.ret ?_
 exact retV (.int .u64 (((2 ^ k : Nat) : Int) - 1)) (by kernel_rfl) ⟨hC5, by rw [fill_done h_a0 hk hk0 (by assumption)]⟩

def ref11_logic (a0 : Int) (a1 : TSpan) (a2 : TSpan)  : TSpan := (letF (ref11_single a1) fun x34 => (if ((a0 == (6 : Int)) && (x34 && (ref11_single a2))) then (letF (ref11_Of (bAnd .u64 a1.Lo a2.Lo)) fun x61 => x61) else (if ((a0 == (7 : Int)) && (x34 && (ref11_single a2))) then (letF (ref11_Of (bOr .u64 a1.Lo a2.Lo)) fun x82 => x82) else (if (x34 && (ref11_single a2)) then (letF (ref11_Of (bXor .u64 a1.Lo a2.Lo)) fun x103 => x103) else (if (a0 == (6 : Int)) then (⟨(0 : Int), (gMin a1.Hi a2.Hi)⟩ : TSpan) else (if (a0 == (7 : Int)) then (⟨(gMax a1.Lo a2.Lo), (fillN (bOr .u64 a1.Hi a2.Hi))⟩ : TSpan) else (letF (fillN (bOr .u64 a1.Hi a2.Hi)) fun x204 => (⟨(0 : Int), x204⟩ : TSpan))))))))

theorem ref11_logic_ok (a0 : Int) (a1 : TSpan) (a2 : TSpan)  (_h_a0 : IU8 a0) (_h_a1 : IU64 a1.Lo ∧ IU64 a1.Hi) (_h_a2 : IU64 a2.Lo ∧ IU64 a2.Hi)  : IU64 (ref11_logic a0 a1 a2).Lo ∧ IU64 (ref11_logic a0 a1 a2).Hi := by
 rw [ref11_logic.eq_1]
 refine letR (p := fun r : TSpan => IU64 r.Lo ∧ IU64 r.Hi) fun x34 _ => ?_
 refine iteR (p := fun r : TSpan => IU64 r.Lo ∧ IU64 r.Hi) (fun hi1001 => ?_) (fun hi1001 => ?_)
 ·
  replace hi1001 : (a0 = (6 : Int)) ∧ ((x34 = true) ∧ ((ref11_single a2) = true)) := ⟨(bEqT (bAndT hi1001).1), ⟨(bAndT (bAndT hi1001).2).1, (bAndT (bAndT hi1001).2).2⟩⟩
  refine letR (p := fun r : TSpan => IU64 r.Lo ∧ IU64 r.Hi) fun x61 hx62 => ?_
  have hx63 : IU64 x61.Lo ∧ IU64 x61.Hi := by rw [← hx62]; exact ref11_Of_ok (bAnd .u64 a1.Lo a2.Lo) (wrapU64 _) 
  exact (by exact (show IU64 x61.Lo ∧ IU64 x61.Hi from ⟨(by omega), (by omega)⟩))
 replace hi1001 : (a0 ≠ (6 : Int)) ∨ ((x34 = false) ∨ ((ref11_single a2) = false)) := (orMap (bAndF hi1001) (fun h => (bEqF h)) (fun h => (orMap (bAndF h) (fun h => h) (fun h => h))))
 refine iteR (p := fun r : TSpan => IU64 r.Lo ∧ IU64 r.Hi) (fun hi1002 => ?_) (fun hi1002 => ?_)
 ·
  replace hi1002 : (a0 = (7 : Int)) ∧ ((x34 = true) ∧ ((ref11_single a2) = true)) := ⟨(bEqT (bAndT hi1002).1), ⟨(bAndT (bAndT hi1002).2).1, (bAndT (bAndT hi1002).2).2⟩⟩
  refine letR (p := fun r : TSpan => IU64 r.Lo ∧ IU64 r.Hi) fun x82 hx83 => ?_
  have hx84 : IU64 x82.Lo ∧ IU64 x82.Hi := by rw [← hx83]; exact ref11_Of_ok (bOr .u64 a1.Lo a2.Lo) (wrapU64 _) 
  exact (by exact (show IU64 x82.Lo ∧ IU64 x82.Hi from ⟨(by omega), (by omega)⟩))
 replace hi1002 : (a0 ≠ (7 : Int)) ∨ ((x34 = false) ∨ ((ref11_single a2) = false)) := (orMap (bAndF hi1002) (fun h => (bEqF h)) (fun h => (orMap (bAndF h) (fun h => h) (fun h => h))))
 refine iteR (p := fun r : TSpan => IU64 r.Lo ∧ IU64 r.Hi) (fun hi1003 => ?_) (fun hi1003 => ?_)
 ·
  replace hi1003 : (x34 = true) ∧ ((ref11_single a2) = true) := ⟨(bAndT hi1003).1, (bAndT hi1003).2⟩
  refine letR (p := fun r : TSpan => IU64 r.Lo ∧ IU64 r.Hi) fun x103 hx104 => ?_
  have hx105 : IU64 x103.Lo ∧ IU64 x103.Hi := by rw [← hx104]; exact ref11_Of_ok (bXor .u64 a1.Lo a2.Lo) (wrapU64 _) 
  exact (by exact (show IU64 x103.Lo ∧ IU64 x103.Hi from ⟨(by omega), (by omega)⟩))
 replace hi1003 : (x34 = false) ∨ ((ref11_single a2) = false) := (orMap (bAndF hi1003) (fun h => h) (fun h => h))
 refine iteR (p := fun r : TSpan => IU64 r.Lo ∧ IU64 r.Hi) (fun hi1004 => ?_) (fun hi1004 => ?_)
 ·
  replace hi1004 : a0 = (6 : Int) := (bEqT hi1004)
  exact (by exact (show IU64 (0 : Int) ∧ IU64 (gMin a1.Hi a2.Hi) from ⟨(by omega), (gMin_rng (by omega) (by omega))⟩))
 replace hi1004 : a0 ≠ (6 : Int) := (bEqF hi1004)
 refine iteR (p := fun r : TSpan => IU64 r.Lo ∧ IU64 r.Hi) (fun hi1005 => ?_) (fun hi1005 => ?_)
 ·
  replace hi1005 : a0 = (7 : Int) := (bEqT hi1005)
  exact (by have : IU64 (fillN (bOr .u64 a1.Hi a2.Hi)) := fillN_rng (bOr .u64 a1.Hi a2.Hi) (wrapU64 _) ; exact (show IU64 (gMax a1.Lo a2.Lo) ∧ IU64 (fillN (bOr .u64 a1.Hi a2.Hi)) from ⟨(gMax_rng (by omega) (by omega)), (by omega)⟩))
 replace hi1005 : a0 ≠ (7 : Int) := (bEqF hi1005)
 refine letR (p := fun r : TSpan => IU64 r.Lo ∧ IU64 r.Hi) fun x204 hx205 => ?_
 have hx206 : IU64 x204 := by rw [← hx205]; exact fillN_rng (bOr .u64 a1.Hi a2.Hi) (wrapU64 _) 
 exact (by exact (show IU64 (0 : Int) ∧ IU64 x204 from ⟨(by omega), (by omega)⟩))

set_option maxRecDepth 100000 in
set_option maxHeartbeats 4000000 in
theorem ref11_logic_any (a0 : Int) (a1 : TSpan) (a2 : TSpan)   (w : World)  (_h_a0 : IU8 a0) (_h_a1 : IU64 a1.Lo ∧ IU64 a1.Hi) (_h_a2 : IU64 a2.Lo ∧ IU64 a2.Hi)  : Calls Try.prog 70 #[.int .u8 a0, .agg #[.int .u64 a1.Lo, .int .u64 a1.Hi], .agg #[.int .u64 a2.Lo, .int .u64 a2.Hi]] w (RetV w (TSpan.v (ref11_logic a0 a1 a2))) := by
 have hs := ref11_logic.eq_1 a0 a1 a2
 refine calls_of_CW Try.func70 rfl (n := 77) Try.ntmps70 (by kernel_rfl) [0, 1, 2] (F := [(0, .int .u8 a0), (1, .agg #[.int .u64 a1.Lo, .int .u64 a1.Hi]), (2, .agg #[.int .u64 a2.Lo, .int .u64 a2.Hi])]) (by kernel_rfl) ?_
 refine CW.seq fun K1 hK1 => ?_
 refine CW.region ?_
 refine WR.box (dst := some 4) (e := 25) (v := .agg #[.int .u64 a1.Lo, .int .u64 a1.Hi]) (by kernel_rfl) #[.int .u64 a1.Lo, .int .u64 a1.Hi] (by kernel_rfl) ?_
 intro g2 w3 hN4
 have hf6 : w.heap.size ≤ g2 := hN4.fresh
 have hfr8 := hN4.fresh
 have hc7 := hN4.chg
 have hz10 := hc7.size
 have hC9 := (Chg.refl [] w).pure hc7
 have hb5 := hN4.blk
 have hg11 := hb5.lt
 refine WR.box (dst := some 5) (e := 25) (v := .agg #[.int .u64 a2.Lo, .int .u64 a2.Hi]) (by kernel_rfl) #[.int .u64 a2.Lo, .int .u64 a2.Hi] (by kernel_rfl) ?_
 intro g12 w13 hN14
 have hf16 : w.heap.size ≤ g12 := Nat.le_trans hC9.size hN14.fresh
 have hfr18 := hN14.fresh
 have hc17 := hN14.chg
 have hz20 := hc17.size
 have hC19 := hC9.pure hc17
 have hb15 := hN14.blk
 have hg21 := hb15.lt
 refine WR.alloc (dst := some 6) (e := 25) (by kernel_rfl) #[.int .u64 0, .int .u64 0] (by kernel_rfl) ?_
 intro g22 w23 hN24
 have hf26 : w.heap.size ≤ g22 := Nat.le_trans hC19.size hN24.fresh
 have hfr28 := hN24.fresh
 have hc27 := hN24.chg
 have hz30 := hc27.size
 have hC29 := hC19.pure hc27
 have hb25 := hN24.blk
 have hg31 := hb25.lt
 refine WR.fin (by kernel_rfl) ?_
 refine go hK1 ?_
 refine CW.seq fun K32 hK32 => ?_
 refine CW.region ?_
 have hb33 := (hb5.pure hc17).pure hc27
 refine WR.load (dst := some 8) (t := 25) (o := 0) hb33 (by kernel_rfl) (.agg #[.int .u64 a1.Lo, .int .u64 a1.Hi]) (by kernel_rfl) ?_
 obtain ⟨x34, hx35⟩ : ∃ x, ref11_single a1 = x := ⟨_, rfl⟩
 have hs36 := letS hx35 hs
 refine WR.call (dst := some 9) (by kernel_rfl) (retE (g := (fun r : Bool => (.bool r : Value))) hx35 (ref11_single_any a1 w23  ⟨(by omega), (by omega)⟩ )) ?_
 rintro _ w37 hc38 rfl
 have hz40 := hc38.size
 have hC39 := hC29.pure hc38
 refine WR.batch 1 [(0, .int .u8 a0), (4, pt g2 0), (5, pt g12 0), (6, pt g22 0), (10, .bool x34)] (by kernel_rfl) ?_
 refine WR.mergeW 6 [(0, .int .u8 a0), (4, pt g2 0), (5, pt g12 0), (6, pt g22 0), (13, .bool (x34 && (ref11_single a2)))] (fun w' => Chg [] w37 w') (fun Q' => ?_) ?_
 ·
  cases hg41 : x34
  ·
   have hk43 := hg41
   intro hM42
   refine WR.batch 3 [(0, .int .u8 a0), (4, pt g2 0), (5, pt g12 0), (6, pt g22 0), (13, .bool false)] (by kernel_rfl) ?_
   exact WR.keep [0, 4, 5, 6, 13] (by kernel_rfl) (hM42 _ (Chg.refl [] w37))
  ·
   have hk44 := hg41
   intro hM42
   have hb45 := (hb15.pure hc27).pure hc38
   refine WR.load (dst := some 11) (t := 25) (o := 0) hb45 (by kernel_rfl) (.agg #[.int .u64 a2.Lo, .int .u64 a2.Hi]) (by kernel_rfl) ?_
   refine WR.call (dst := some 12) (by kernel_rfl) (ref11_single_any a2 w37  ⟨(by omega), (by omega)⟩ ) ?_
   rintro _ w46 hc47 rfl
   have hz49 := hc47.size
   have hC48 := hC39.pure hc47
   refine WR.batch 1 [(0, .int .u8 a0), (4, pt g2 0), (5, pt g12 0), (6, pt g22 0), (13, .bool (ref11_single a2))] (by kernel_rfl) ?_
   exact WR.keep [0, 4, 5, 6, 13] (by kernel_rfl) (hM42 _ ((Chg.refl [] w37).pure hc47))
 intro w50 hc51
 have hz53 := hc51.size
 have hC52 := hC39.pure hc51
 refine WR.batch 1 [(0, .int .u8 a0), (4, pt g2 0), (5, pt g12 0), (6, pt g22 0), (7, .bool (x34 && (ref11_single a2)))] (by kernel_rfl) ?_
 refine WR.fin (by kernel_rfl) ?_
 refine go hK32 ?_
 refine CW.seq fun K54 hK54 => ?_
 refine CW.block ?_
 refine CW.seq fun K55 hK55 => ?_
 refine CW.region ?_
 refine WR.batch 3 [(0, .int .u8 a0), (4, pt g2 0), (5, pt g12 0), (6, pt g22 0), (7, .bool (x34 && (ref11_single a2))), (17, .bool (a0 == (6 : Int)))] (by kernel_rfl) ?_
 refine WR.batch 2 [(0, .int .u8 a0), (4, pt g2 0), (5, pt g12 0), (6, pt g22 0), (7, .bool (x34 && (ref11_single a2))), (19, .bool ((a0 == (6 : Int)) && (x34 && (ref11_single a2))))] (by generalize (a0 == (6 : Int)) = b; cases b <;> kernel_rfl) ?_
 refine WR.batch 1 [(0, .int .u8 a0), (4, pt g2 0), (5, pt g12 0), (6, pt g22 0), (7, .bool (x34 && (ref11_single a2))), (14, .bool ((a0 == (6 : Int)) && (x34 && (ref11_single a2))))] (by kernel_rfl) ?_
 refine WR.fin (by kernel_rfl) ?_
 refine go hK55 ?_
 refine CW.cond (((a0 == (6 : Int)) && (x34 && (ref11_single a2)))) (by kernel_rfl) (fun ht56 => ?_) (fun ht56 => ?_)
 ·
  have hs57 := ifT ht56 hs36
  replace ht56 : (a0 = (6 : Int)) ∧ ((x34 = true) ∧ ((ref11_single a2) = true)) := ⟨(bEqT (bAndT ht56).1), ⟨(bAndT (bAndT ht56).2).1, (bAndT (bAndT ht56).2).2⟩⟩
  refine CW.seq fun K58 hK58 => ?_
  refine CW.region ?_
  refine WR.batch 1 [(5, pt g12 0), (6, pt g22 0), (20, pt g2 0)] (by kernel_rfl) ?_
  have hb59 := (hb33.pure hc38).pure hc51
  refine WR.load (dst := some 21) (t := 23) (o := 0) hb59 (by kernel_rfl) (.int .u64 a1.Lo) (by kernel_rfl) ?_
  refine WR.batch 1 [(6, pt g22 0), (21, .int .u64 a1.Lo), (22, pt g12 0)] (by kernel_rfl) ?_
  have hb60 := ((hb15.pure hc27).pure hc38).pure hc51
  refine WR.load (dst := some 23) (t := 23) (o := 0) hb60 (by kernel_rfl) (.int .u64 a2.Lo) (by kernel_rfl) ?_
  refine WR.batch 1 [(6, pt g22 0), (24, .int .u64 (bAnd .u64 a1.Lo a2.Lo))] (by kernel_rfl) ?_
  obtain ⟨x61, hx62⟩ : ∃ x, ref11_Of (bAnd .u64 a1.Lo a2.Lo) = x := ⟨_, rfl⟩
  have hs64 := letS hx62 hs57
  have hx63 : IU64 x61.Lo ∧ IU64 x61.Hi := by rw [← hx62]; exact ref11_Of_ok (bAnd .u64 a1.Lo a2.Lo) (wrapU64 _) 
  refine WR.call (dst := some 25) (by kernel_rfl) (retE (g := TSpan.v) hx62 (ref11_Of_any (bAnd .u64 a1.Lo a2.Lo) w50  (wrapU64 _) )) ?_
  rintro _ w65 hc66 rfl
  have hz68 := hc66.size
  have hC67 := hC52.pure hc66
  have hb72 := ((hb25.pure hc38).pure hc51).pure hc66
  refine WR.store (t := 25) (o := 0) (v := .agg #[.int .u64 x61.Lo, .int .u64 x61.Hi]) hb72 (by kernel_rfl) #[.int .u64 x61.Lo, .int .u64 x61.Hi] (by kernel_rfl) ?_
  intro w69 hb70 hc71
  have hz74 := hc71.size
  have hC73 := hC67.step1 hc71 (by omega)
  refine WR.fin (by kernel_rfl) ?_
  refine go hK58 ?_
  refine CW.ret ?_
  exact retC [.agg #[.int .u64 x61.Lo, .int .u64 x61.Hi]] _ rfl ⟨resCell hb70 rfl (by kernel_rfl), trivial⟩ (⟨hC73, (congrArg TSpan.v hs64).symm⟩)
 have hs75 := ifF ht56 hs36
 replace ht56 : (a0 ≠ (6 : Int)) ∨ ((x34 = false) ∨ ((ref11_single a2) = false)) := (orMap (bAndF ht56) (fun h => (bEqF h)) (fun h => (orMap (bAndF h) (fun h => h) (fun h => h))))
 refine CW.seq fun K76 hK76 => ?_
 refine CW.region ?_
 refine WR.batch 3 [(0, .int .u8 a0), (4, pt g2 0), (5, pt g12 0), (6, pt g22 0), (7, .bool (x34 && (ref11_single a2))), (29, .bool (a0 == (7 : Int)))] (by kernel_rfl) ?_
 refine WR.batch 2 [(0, .int .u8 a0), (4, pt g2 0), (5, pt g12 0), (6, pt g22 0), (7, .bool (x34 && (ref11_single a2))), (31, .bool ((a0 == (7 : Int)) && (x34 && (ref11_single a2))))] (by generalize (a0 == (7 : Int)) = b; cases b <;> kernel_rfl) ?_
 refine WR.batch 1 [(0, .int .u8 a0), (4, pt g2 0), (5, pt g12 0), (6, pt g22 0), (7, .bool (x34 && (ref11_single a2))), (26, .bool ((a0 == (7 : Int)) && (x34 && (ref11_single a2))))] (by kernel_rfl) ?_
 refine WR.fin (by kernel_rfl) ?_
 refine go hK76 ?_
 refine CW.cond (((a0 == (7 : Int)) && (x34 && (ref11_single a2)))) (by kernel_rfl) (fun ht77 => ?_) (fun ht77 => ?_)
 ·
  have hs78 := ifT ht77 hs75
  replace ht77 : (a0 = (7 : Int)) ∧ ((x34 = true) ∧ ((ref11_single a2) = true)) := ⟨(bEqT (bAndT ht77).1), ⟨(bAndT (bAndT ht77).2).1, (bAndT (bAndT ht77).2).2⟩⟩
  refine CW.seq fun K79 hK79 => ?_
  refine CW.region ?_
  refine WR.batch 1 [(5, pt g12 0), (6, pt g22 0), (32, pt g2 0)] (by kernel_rfl) ?_
  have hb80 := (hb33.pure hc38).pure hc51
  refine WR.load (dst := some 33) (t := 23) (o := 0) hb80 (by kernel_rfl) (.int .u64 a1.Lo) (by kernel_rfl) ?_
  refine WR.batch 1 [(6, pt g22 0), (33, .int .u64 a1.Lo), (34, pt g12 0)] (by kernel_rfl) ?_
  have hb81 := ((hb15.pure hc27).pure hc38).pure hc51
  refine WR.load (dst := some 35) (t := 23) (o := 0) hb81 (by kernel_rfl) (.int .u64 a2.Lo) (by kernel_rfl) ?_
  refine WR.batch 1 [(6, pt g22 0), (36, .int .u64 (bOr .u64 a1.Lo a2.Lo))] (by kernel_rfl) ?_
  obtain ⟨x82, hx83⟩ : ∃ x, ref11_Of (bOr .u64 a1.Lo a2.Lo) = x := ⟨_, rfl⟩
  have hs85 := letS hx83 hs78
  have hx84 : IU64 x82.Lo ∧ IU64 x82.Hi := by rw [← hx83]; exact ref11_Of_ok (bOr .u64 a1.Lo a2.Lo) (wrapU64 _) 
  refine WR.call (dst := some 37) (by kernel_rfl) (retE (g := TSpan.v) hx83 (ref11_Of_any (bOr .u64 a1.Lo a2.Lo) w50  (wrapU64 _) )) ?_
  rintro _ w86 hc87 rfl
  have hz89 := hc87.size
  have hC88 := hC52.pure hc87
  have hb93 := ((hb25.pure hc38).pure hc51).pure hc87
  refine WR.store (t := 25) (o := 0) (v := .agg #[.int .u64 x82.Lo, .int .u64 x82.Hi]) hb93 (by kernel_rfl) #[.int .u64 x82.Lo, .int .u64 x82.Hi] (by kernel_rfl) ?_
  intro w90 hb91 hc92
  have hz95 := hc92.size
  have hC94 := hC88.step1 hc92 (by omega)
  refine WR.fin (by kernel_rfl) ?_
  refine go hK79 ?_
  refine CW.ret ?_
  exact retC [.agg #[.int .u64 x82.Lo, .int .u64 x82.Hi]] _ rfl ⟨resCell hb91 rfl (by kernel_rfl), trivial⟩ (⟨hC94, (congrArg TSpan.v hs85).symm⟩)
 have hs96 := ifF ht77 hs75
 replace ht77 : (a0 ≠ (7 : Int)) ∨ ((x34 = false) ∨ ((ref11_single a2) = false)) := (orMap (bAndF ht77) (fun h => (bEqF h)) (fun h => (orMap (bAndF h) (fun h => h) (fun h => h))))
 refine CW.seq fun K97 hK97 => ?_
 refine CW.region ?_
 refine WR.batch 2 [(0, .int .u8 a0), (4, pt g2 0), (5, pt g12 0), (6, pt g22 0), (38, .bool (x34 && (ref11_single a2)))] (by kernel_rfl) ?_
 refine WR.fin (by kernel_rfl) ?_
 refine go hK97 ?_
 refine CW.cond ((x34 && (ref11_single a2))) (by kernel_rfl) (fun ht98 => ?_) (fun ht98 => ?_)
 ·
  have hs99 := ifT ht98 hs96
  replace ht98 : (x34 = true) ∧ ((ref11_single a2) = true) := ⟨(bAndT ht98).1, (bAndT ht98).2⟩
  refine CW.seq fun K100 hK100 => ?_
  refine CW.region ?_
  refine WR.batch 1 [(5, pt g12 0), (6, pt g22 0), (40, pt g2 0)] (by kernel_rfl) ?_
  have hb101 := (hb33.pure hc38).pure hc51
  refine WR.load (dst := some 41) (t := 23) (o := 0) hb101 (by kernel_rfl) (.int .u64 a1.Lo) (by kernel_rfl) ?_
  refine WR.batch 1 [(6, pt g22 0), (41, .int .u64 a1.Lo), (42, pt g12 0)] (by kernel_rfl) ?_
  have hb102 := ((hb15.pure hc27).pure hc38).pure hc51
  refine WR.load (dst := some 43) (t := 23) (o := 0) hb102 (by kernel_rfl) (.int .u64 a2.Lo) (by kernel_rfl) ?_
  refine WR.batch 1 [(6, pt g22 0), (44, .int .u64 (bXor .u64 a1.Lo a2.Lo))] (by kernel_rfl) ?_
  obtain ⟨x103, hx104⟩ : ∃ x, ref11_Of (bXor .u64 a1.Lo a2.Lo) = x := ⟨_, rfl⟩
  have hs106 := letS hx104 hs99
  have hx105 : IU64 x103.Lo ∧ IU64 x103.Hi := by rw [← hx104]; exact ref11_Of_ok (bXor .u64 a1.Lo a2.Lo) (wrapU64 _) 
  refine WR.call (dst := some 45) (by kernel_rfl) (retE (g := TSpan.v) hx104 (ref11_Of_any (bXor .u64 a1.Lo a2.Lo) w50  (wrapU64 _) )) ?_
  rintro _ w107 hc108 rfl
  have hz110 := hc108.size
  have hC109 := hC52.pure hc108
  have hb114 := ((hb25.pure hc38).pure hc51).pure hc108
  refine WR.store (t := 25) (o := 0) (v := .agg #[.int .u64 x103.Lo, .int .u64 x103.Hi]) hb114 (by kernel_rfl) #[.int .u64 x103.Lo, .int .u64 x103.Hi] (by kernel_rfl) ?_
  intro w111 hb112 hc113
  have hz116 := hc113.size
  have hC115 := hC109.step1 hc113 (by omega)
  refine WR.fin (by kernel_rfl) ?_
  refine go hK100 ?_
  refine CW.ret ?_
  exact retC [.agg #[.int .u64 x103.Lo, .int .u64 x103.Hi]] _ rfl ⟨resCell hb112 rfl (by kernel_rfl), trivial⟩ (⟨hC115, (congrArg TSpan.v hs106).symm⟩)
 have hs117 := ifF ht98 hs96
 replace ht98 : (x34 = false) ∨ ((ref11_single a2) = false) := (orMap (bAndF ht98) (fun h => h) (fun h => h))
 refine CW.seq fun K118 hK118 => ?_
 refine CW.region ?_
 refine WR.batch 3 [(0, .int .u8 a0), (4, pt g2 0), (5, pt g12 0), (6, pt g22 0), (46, .bool (a0 == (6 : Int)))] (by kernel_rfl) ?_
 refine WR.fin (by kernel_rfl) ?_
 refine go hK118 ?_
 refine CW.cond ((a0 == (6 : Int))) (by kernel_rfl) (fun ht119 => ?_) (fun ht119 => ?_)
 ·
  have hs120 := ifT ht119 hs117
  replace ht119 : a0 = (6 : Int) := (bEqT ht119)
  refine CW.seq fun K121 hK121 => ?_
  refine CW.region ?_
  refine WR.batch 1 [(5, pt g12 0), (6, pt g22 0), (49, pt g2 1)] (by kernel_rfl) ?_
  have hb122 := (hb33.pure hc38).pure hc51
  refine WR.load (dst := some 50) (t := 23) (o := 1) hb122 (by kernel_rfl) (.int .u64 a1.Hi) (by kernel_rfl) ?_
  refine WR.batch 1 [(6, pt g22 0), (50, .int .u64 a1.Hi), (51, pt g12 1)] (by kernel_rfl) ?_
  have hb123 := ((hb15.pure hc27).pure hc38).pure hc51
  refine WR.load (dst := some 52) (t := 23) (o := 1) hb123 (by kernel_rfl) (.int .u64 a2.Hi) (by kernel_rfl) ?_
  refine WR.batch 2 [(6, pt g22 0), (54, .agg #[.int .u64 0, .int .u64 (gMin a1.Hi a2.Hi)])] (by kernel_rfl) ?_
  have hb127 := (hb25.pure hc38).pure hc51
  refine WR.store (t := 25) (o := 0) (v := .agg #[.int .u64 0, .int .u64 (gMin a1.Hi a2.Hi)]) hb127 (by kernel_rfl) #[.int .u64 0, .int .u64 (gMin a1.Hi a2.Hi)] (by kernel_rfl) ?_
  intro w124 hb125 hc126
  have hz129 := hc126.size
  have hC128 := hC52.step1 hc126 (by omega)
  refine WR.fin (by kernel_rfl) ?_
  refine go hK121 ?_
  refine CW.ret ?_
  exact retC [.agg #[.int .u64 0, .int .u64 (gMin a1.Hi a2.Hi)]] _ rfl ⟨resCell hb125 rfl (by kernel_rfl), trivial⟩ (⟨hC128, (congrArg TSpan.v hs120).symm⟩)
 have hs130 := ifF ht119 hs117
 replace ht119 : a0 ≠ (6 : Int) := (bEqF ht119)
 refine CW.seq fun K131 hK131 => ?_
 refine CW.region ?_
 refine WR.batch 3 [(4, pt g2 0), (5, pt g12 0), (6, pt g22 0), (55, .bool (a0 == (7 : Int)))] (by kernel_rfl) ?_
 refine WR.fin (by kernel_rfl) ?_
 refine go hK131 ?_
 refine CW.cond ((a0 == (7 : Int))) (by kernel_rfl) (fun ht132 => ?_) (fun ht132 => ?_)
 ·
  have hs133 := ifT ht132 hs130
  replace ht132 : a0 = (7 : Int) := (bEqT ht132)
  refine CW.seq fun K134 hK134 => ?_
  refine CW.keep [4, 5, 6] (F' := [(4, pt g2 0), (5, pt g12 0), (6, pt g22 0)]) (by kernel_rfl) ?_
  refine CW.regionG 12 [some (pt g2 0), some (.int .u64 a1.Lo), some (pt g12 0), some (.int .u64 a2.Lo), some (.int .u64 (gMax a1.Lo a2.Lo)), some (pt g2 1), some (.int .u64 a1.Hi), some (pt g12 1), some (.int .u64 a2.Hi), some (.int .u64 (bOr .u64 a1.Hi a2.Hi)), some (.int .u64 (fillN (bOr .u64 a1.Hi a2.Hi))), some (.agg #[.int .u64 (gMax a1.Lo a2.Lo), .int .u64 (fillN (bOr .u64 a1.Hi a2.Hi))])] (fun u => [(58, pt g2 0), (59, .int .u64 a1.Lo), (60, pt g12 0), (61, .int .u64 a2.Lo), (62, .int .u64 (gMax a1.Lo a2.Lo)), (63, pt g2 1), (64, .int .u64 a1.Hi), (65, pt g12 1), (66, .int .u64 a2.Hi), (67, .int .u64 (bOr .u64 a1.Hi a2.Hi)), (68, .int .u64 (fillN (bOr .u64 a1.Hi a2.Hi))), (69, .agg #[.int .u64 (gMax a1.Lo a2.Lo), .int .u64 (fillN (bOr .u64 a1.Hi a2.Hi))]), (4, pt g2 0), (5, pt g12 0), (6, pt g22 0)]) (fun _ => by kernel_rfl) (by kernel_rfl) [] (fun _ _ => True) (fun _ => trivial) (fun _ _ _ _ _ _ _ => trivial) [] [] (by kernel_rfl) (fun w' => Chg [] w50 w') (fun _ _ _ => True) (fun j x w hj h => absurd hj (by simp)) (by kernel_rfl) (by kernel_rfl) (by kernel_rfl) (by kernel_rfl) (Chg.drew w50) (fun _ _ _ h h' => h.step h' (fun t ht => .inl (cL_sub t ht))) (fun _ _ _ _ _ _ _ _ => trivial) (obsG_batch 1 0 11 (fun _ _ => by kernel_rfl) (by kernel_rfl) ⟨?_, (obsG_batch 1 2 9 (fun _ _ => by kernel_rfl) (by kernel_rfl) ⟨?_, (obsG_batch 2 4 6 (fun _ _ => by kernel_rfl) (by kernel_rfl) ⟨?_, (obsG_batch 1 7 4 (fun _ _ => by kernel_rfl) (by kernel_rfl) ⟨?_, (obsG_batch 1 9 2 (fun _ _ => by kernel_rfl) (by kernel_rfl) ⟨?_, (obsG_batch 1 11 0 (fun _ _ => by kernel_rfl) (by kernel_rfl) trivial)⟩)⟩)⟩)⟩)⟩) ?_
  ·
   intro u135 w136 hW137 _ hp138 hal139
   have hz142 := hW137.size
   have hC141 := hC52.pure hW137
   have hb143 := ((hb33.pure hc38).pure hc51).pure hW137
   refine WR.load (dst := some 59) (t := 23) (o := 0) hb143 (by kernel_rfl) (.int .u64 a1.Lo) (by kernel_rfl) ?_
   refine WR.fin (by kernel_rfl) ?_
   exact fun _ ha => ⟨Chg.refl _ _, _, ha, ⟨⟨fun h => absurd h (by decide), alNone (by decide)⟩, rfl⟩⟩
  ·
   intro u144 w145 hW146 _ hp147 hal148
   have hz151 := hW146.size
   have hC150 := hC52.pure hW146
   have hb152 := (((hb15.pure hc27).pure hc38).pure hc51).pure hW146
   refine WR.load (dst := some 61) (t := 23) (o := 0) hb152 (by kernel_rfl) (.int .u64 a2.Lo) (by kernel_rfl) ?_
   refine WR.fin (by kernel_rfl) ?_
   exact fun _ ha => ⟨Chg.refl _ _, _, ha, ⟨⟨fun h => absurd h (by decide), alNone (by decide)⟩, rfl⟩⟩
  ·
   intro u153 w154 hW155 _ hp156 hal157
   have hz160 := hW155.size
   have hC159 := hC52.pure hW155
   have hb161 := ((hb33.pure hc38).pure hc51).pure hW155
   refine WR.load (dst := some 64) (t := 23) (o := 1) hb161 (by kernel_rfl) (.int .u64 a1.Hi) (by kernel_rfl) ?_
   refine WR.fin (by kernel_rfl) ?_
   exact fun _ ha => ⟨Chg.refl _ _, _, ha, ⟨⟨fun h => absurd h (by decide), alNone (by decide)⟩, rfl⟩⟩
  ·
   intro u162 w163 hW164 _ hp165 hal166
   have hz169 := hW164.size
   have hC168 := hC52.pure hW164
   have hb170 := (((hb15.pure hc27).pure hc38).pure hc51).pure hW164
   refine WR.load (dst := some 66) (t := 23) (o := 1) hb170 (by kernel_rfl) (.int .u64 a2.Hi) (by kernel_rfl) ?_
   refine WR.fin (by kernel_rfl) ?_
   exact fun _ ha => ⟨Chg.refl _ _, _, ha, ⟨⟨fun h => absurd h (by decide), alNone (by decide)⟩, rfl⟩⟩
  ·
   intro u171 w172 hW173 _ hp174 hal175
   have hz178 := hW173.size
   have hC177 := hC52.pure hW173
   have hx179 : IU64 (fillN (bOr .u64 a1.Hi a2.Hi)) := fillN_rng (bOr .u64 a1.Hi a2.Hi) (wrapU64 _) 
   have hx180 : IU64 (fillN (bOr .u64 a1.Hi a2.Hi)) := fillN_rng (bOr .u64 a1.Hi a2.Hi) (wrapU64 _) 
   refine WR.call (dst := some 68) (by kernel_rfl) (ref11_filled_any (bOr .u64 a1.Hi a2.Hi) w172  (wrapU64 _) ) ?_
   rintro _ w181 hc182 rfl
   have hz184 := hc182.size
   have hC183 := hC177.pure hc182
   refine WR.fin (by kernel_rfl) ?_
   exact fun _ ha => ⟨hc182, _, ha, ⟨⟨fun h => absurd h (by decide), alNone (by decide)⟩, rfl⟩⟩
  intro u185 w186 hW187 _ _ _
  have hz192 := hW187.size
  have hC191 := hC52.pure hW187
  have hx193 : IU64 (fillN (bOr .u64 a1.Hi a2.Hi)) := fillN_rng (bOr .u64 a1.Hi a2.Hi) (wrapU64 _) 
  refine WR.keep [6, 69] (F' := [(6, pt g22 0), (69, .agg #[.int .u64 (gMax a1.Lo a2.Lo), .int .u64 (fillN (bOr .u64 a1.Hi a2.Hi))])]) (by kernel_rfl) ?_
  have hb197 := ((hb25.pure hc38).pure hc51).pure hW187
  refine WR.store (t := 25) (o := 0) (v := .agg #[.int .u64 (gMax a1.Lo a2.Lo), .int .u64 (fillN (bOr .u64 a1.Hi a2.Hi))]) hb197 (by kernel_rfl) #[.int .u64 (gMax a1.Lo a2.Lo), .int .u64 (fillN (bOr .u64 a1.Hi a2.Hi))] (by kernel_rfl) ?_
  intro w194 hb195 hc196
  have hz199 := hc196.size
  have hC198 := hC191.step1 hc196 (by omega)
  refine WR.fin (by kernel_rfl) ?_
  refine go hK134 ?_
  refine CW.ret ?_
  exact retC [.agg #[.int .u64 (gMax a1.Lo a2.Lo), .int .u64 (fillN (bOr .u64 a1.Hi a2.Hi))]] _ rfl ⟨resCell hb195 rfl (by kernel_rfl), trivial⟩ (⟨hC198, (congrArg TSpan.v hs133).symm⟩)
 have hs200 := ifF ht132 hs130
 replace ht132 : a0 ≠ (7 : Int) := (bEqF ht132)
 refine CW.skip ?_
 refine go hK54 ?_
 refine CW.seq fun K201 hK201 => ?_
 refine CW.region ?_
 refine WR.batch 1 [(5, pt g12 0), (6, pt g22 0), (70, pt g2 1)] (by kernel_rfl) ?_
 have hb202 := (hb33.pure hc38).pure hc51
 refine WR.load (dst := some 71) (t := 23) (o := 1) hb202 (by kernel_rfl) (.int .u64 a1.Hi) (by kernel_rfl) ?_
 refine WR.batch 1 [(6, pt g22 0), (71, .int .u64 a1.Hi), (72, pt g12 1)] (by kernel_rfl) ?_
 have hb203 := ((hb15.pure hc27).pure hc38).pure hc51
 refine WR.load (dst := some 73) (t := 23) (o := 1) hb203 (by kernel_rfl) (.int .u64 a2.Hi) (by kernel_rfl) ?_
 refine WR.batch 1 [(6, pt g22 0), (74, .int .u64 (bOr .u64 a1.Hi a2.Hi))] (by kernel_rfl) ?_
 obtain ⟨x204, hx205⟩ : ∃ x, fillN (bOr .u64 a1.Hi a2.Hi) = x := ⟨_, rfl⟩
 have hs207 := letS hx205 hs200
 have hx206 : IU64 x204 := by rw [← hx205]; exact fillN_rng (bOr .u64 a1.Hi a2.Hi) (wrapU64 _) 
 refine WR.call (dst := some 75) (by kernel_rfl) (retE (g := (fun r : Int => (.int .u64 r : Value))) hx205 (ref11_filled_any (bOr .u64 a1.Hi a2.Hi) w50  (wrapU64 _) )) ?_
 rintro _ w208 hc209 rfl
 have hz211 := hc209.size
 have hC210 := hC52.pure hc209
 refine WR.batch 1 [(6, pt g22 0), (76, .agg #[.int .u64 0, .int .u64 x204])] (by kernel_rfl) ?_
 have hb215 := ((hb25.pure hc38).pure hc51).pure hc209
 refine WR.store (t := 25) (o := 0) (v := .agg #[.int .u64 0, .int .u64 x204]) hb215 (by kernel_rfl) #[.int .u64 0, .int .u64 x204] (by kernel_rfl) ?_
 intro w212 hb213 hc214
 have hz217 := hc214.size
 have hC216 := hC210.step1 hc214 (by omega)
 refine WR.fin (by kernel_rfl) ?_
 refine go hK201 ?_
 refine CW.ret ?_
 exact retC [.agg #[.int .u64 0, .int .u64 x204]] _ rfl ⟨resCell hb213 rfl (by kernel_rfl), trivial⟩ (⟨hC216, (congrArg TSpan.v hs207).symm⟩)

def ref01_Do_11 (a0 : Bool) (a1 : Int) (a2 : Int)  : (Int × Int) := (if a0 then (letF (ref01_bit (bAnd .u64 a1 (4294967295 : Int)) (31 : Int)) fun x28 => (letF (ref01_moved (bAnd .u64 a1 (4294967295 : Int)) (0 - ((((bAnd .u64 a2 (4294967295 : Int))).tmod (32 : Int)))) (32 : Int) x28) fun x31 => ((bAnd .u64 x31 (4294967295 : Int)), (0 : Int)))) else (letF (ref01_bit a1 (63 : Int)) fun x62 => (letF (ref01_moved a1 (0 - (((a2).tmod (64 : Int)))) (64 : Int) x62) fun x65 => (x65, (0 : Int)))))

theorem ref01_Do_11_ok (a0 : Bool) (a1 : Int) (a2 : Int)  (_h_a1 : IU64 a1) (_h_a2 : IU64 a2)  : IU64 (ref01_Do_11 a0 a1 a2).1 ∧ II64 (ref01_Do_11 a0 a1 a2).2 := by
 rw [ref01_Do_11.eq_1]
 refine iteR (p := fun r : (Int × Int) => IU64 r.1 ∧ II64 r.2) (fun hi1001 => ?_) (fun hi1001 => ?_)
 ·
  refine letR (p := fun r : (Int × Int) => IU64 r.1 ∧ II64 r.2) fun x28 _ => ?_
  refine letR (p := fun r : (Int × Int) => IU64 r.1 ∧ II64 r.2) fun x31 hx32 => ?_
  have hx33 : IU64 x31 := by have : 0 ≤ (((bAnd .u64 a2 (4294967295 : Int))).tmod (32 : Int)) ∧ (((bAnd .u64 a2 (4294967295 : Int))).tmod (32 : Int)) < (32 : Int) := ⟨(tmod_rng (m := 18446744073709551615) (wrapU64 _) (by omega)).1, tmod_lt (show IU64 (bAnd .u64 a2 (4294967295 : Int)) from (wrapU64 _)).1 (by omega)⟩; rw [← hx32]; exact ref01_moved_ok (bAnd .u64 a1 (4294967295 : Int)) (0 - ((((bAnd .u64 a2 (4294967295 : Int))).tmod (32 : Int)))) (32 : Int) x28 (wrapU64 _) (by omega) (by omega) (by omega)
  exact (by exact (show IU64 (bAnd .u64 x31 (4294967295 : Int)) ∧ II64 (0 : Int) from ⟨(wrapU64 _), (by omega)⟩))
 refine letR (p := fun r : (Int × Int) => IU64 r.1 ∧ II64 r.2) fun x62 _ => ?_
 refine letR (p := fun r : (Int × Int) => IU64 r.1 ∧ II64 r.2) fun x65 hx66 => ?_
 have hx67 : IU64 x65 := by have : 0 ≤ ((a2).tmod (64 : Int)) ∧ ((a2).tmod (64 : Int)) < (64 : Int) := ⟨(tmod_rng (m := 18446744073709551615) (by omega) (by omega)).1, tmod_lt (by omega) (by omega)⟩; rw [← hx66]; exact ref01_moved_ok a1 (0 - (((a2).tmod (64 : Int)))) (64 : Int) x62 (by omega) (by omega) (by omega) (by omega)
 exact (by exact (show IU64 x65 ∧ II64 (0 : Int) from ⟨(by omega), (by omega)⟩))

set_option maxRecDepth 100000 in
set_option maxHeartbeats 4000000 in
theorem ref01_Do_11_any (a0 : Bool) (a1 : Int) (a2 : Int)   (w : World)  (_h_a1 : IU64 a1) (_h_a2 : IU64 a2)  : Calls Try.prog 123 #[.int .u8 (11 : Int), .bool a0, .int .u64 a1, .int .u64 a2] w (RetV w (.tuple #[.int .u64 (ref01_Do_11 a0 a1 a2).1, .int .i64 (ref01_Do_11 a0 a1 a2).2])) := by
 have hs := ref01_Do_11.eq_1 a0 a1 a2
 refine calls_of_CW Try.func123 rfl (n := 103) Try.ntmps123 (by kernel_rfl) [0, 1, 2, 3] (F := [(0, .int .u8 11), (1, .bool a0), (2, .int .u64 a1), (3, .int .u64 a2)]) (by kernel_rfl) ?_
 refine CW.seq fun K1 hK1 => ?_
 refine CW.region ?_
 refine WR.batch 2 [(0, .int .u8 11), (1, .bool a0), (2, .int .u64 a1), (3, .int .u64 a2)] (by kernel_rfl) ?_
 refine WR.fin (by kernel_rfl) ?_
 refine go hK1 ?_
 refine CW.seq fun K2 hK2 => ?_
 refine CW.region ?_
 refine WR.batch 1 [(0, .int .u8 11), (1, .bool a0), (2, .int .u64 a1), (3, .int .u64 a2), (10, .int .i64 64)] (by kernel_rfl) ?_
 refine WR.fin (by kernel_rfl) ?_
 refine go hK2 ?_
 refine CW.seq fun K3 hK3 => ?_
 refine CW.seq fun K4 hK4 => ?_
 refine CW.region ?_
 refine WR.batch 1 [(0, .int .u8 11), (1, .bool a0), (2, .int .u64 a1), (3, .int .u64 a2), (10, .int .i64 64), (12, .bool a0)] (by kernel_rfl) ?_
 refine WR.fin (by kernel_rfl) ?_
 refine go hK4 ?_
 refine CW.cond (a0) (by kernel_rfl) (fun ht5 => ?_) (fun ht5 => ?_)
 ·
  have hs6 := ifT ht5 hs
  refine CW.keep [0, 1, 2, 3] (F' := [(0, .int .u8 11), (1, .bool a0), (2, .int .u64 a1), (3, .int .u64 a2)]) (by kernel_rfl) ?_
  refine CW.eqF (F' := [(0, .int .u8 11), (1, .bool true), (2, .int .u64 a1), (3, .int .u64 a2)]) (by rw [ht5]) ?_
  have hk7 := ht5
  refine CW.seq fun K8 hK8 => ?_
  refine CW.region ?_
  refine WR.batch 1 [(0, .int .u8 11), (1, .bool true), (2, .int .u64 a1), (3, .int .u64 a2), (10, .int .i64 32)] (by kernel_rfl) ?_
  refine WR.fin (by kernel_rfl) ?_
  refine go hK8 ?_
  refine CW.seq fun K9 hK9 => ?_
  refine CW.region ?_
  refine WR.batch 3 [(0, .int .u8 11), (1, .bool true), (2, .int .u64 (bAnd .u64 a1 (4294967295 : Int))), (3, .int .u64 a2), (10, .int .i64 32)] (by kernel_rfl) ?_
  refine WR.fin (by kernel_rfl) ?_
  refine go hK9 ?_
  refine CW.region ?_
  refine WR.batch 3 [(0, .int .u8 11), (1, .bool true), (2, .int .u64 (bAnd .u64 a1 (4294967295 : Int))), (3, .int .u64 (bAnd .u64 a2 (4294967295 : Int))), (10, .int .i64 32)] (by kernel_rfl) ?_
  refine WR.fin (by kernel_rfl) ?_
  refine go hK3 ?_
  refine CW.seq fun K10 hK10 => ?_
  refine CW.region ?_
  refine WR.batch 1 [(0, .int .u8 11), (1, .bool true), (2, .int .u64 (bAnd .u64 a1 (4294967295 : Int))), (3, .int .u64 (bAnd .u64 a2 (4294967295 : Int))), (10, .int .i64 32)] (by kernel_rfl) ?_
  refine WR.fin (by kernel_rfl) ?_
  refine go hK10 ?_
  refine CW.seq fun K11 hK11 => ?_
  refine CW.seq fun K12 hK12 => ?_
  refine CW.region ?_
  refine WR.batch 1 [(0, .int .u8 11), (1, .bool true), (2, .int .u64 (bAnd .u64 a1 (4294967295 : Int))), (3, .int .u64 (bAnd .u64 a2 (4294967295 : Int))), (10, .int .i64 32), (17, .int .u8 11)] (by kernel_rfl) ?_
  refine WR.fin (by kernel_rfl) ?_
  refine go hK12 ?_
  refine CW.block ?_
  refine CW.seq fun K13 hK13 => ?_
  refine CW.region ?_
  refine WR.batch 2 [(0, .int .u8 11), (1, .bool true), (2, .int .u64 (bAnd .u64 a1 (4294967295 : Int))), (3, .int .u64 (bAnd .u64 a2 (4294967295 : Int))), (10, .int .i64 32), (17, .int .u8 11), (18, .bool false)] (by kernel_rfl) ?_
  refine WR.fin (by kernel_rfl) ?_
  refine go hK13 ?_
  refine CW.no (by kernel_rfl) ?_
  refine CW.seq fun K14 hK14 => ?_
  refine CW.region ?_
  refine WR.batch 2 [(0, .int .u8 11), (1, .bool true), (2, .int .u64 (bAnd .u64 a1 (4294967295 : Int))), (3, .int .u64 (bAnd .u64 a2 (4294967295 : Int))), (10, .int .i64 32), (17, .int .u8 11), (23, .bool false)] (by kernel_rfl) ?_
  refine WR.fin (by kernel_rfl) ?_
  refine go hK14 ?_
  refine CW.no (by kernel_rfl) ?_
  refine CW.seq fun K15 hK15 => ?_
  refine CW.region ?_
  refine WR.batch 2 [(0, .int .u8 11), (1, .bool true), (2, .int .u64 (bAnd .u64 a1 (4294967295 : Int))), (3, .int .u64 (bAnd .u64 a2 (4294967295 : Int))), (10, .int .i64 32), (17, .int .u8 11), (28, .bool false)] (by kernel_rfl) ?_
  refine WR.fin (by kernel_rfl) ?_
  refine go hK15 ?_
  refine CW.no (by kernel_rfl) ?_
  refine CW.seq fun K16 hK16 => ?_
  refine CW.seq fun K17 hK17 => ?_
  refine CW.region ?_
  refine WR.batch 2 [(0, .int .u8 11), (1, .bool true), (2, .int .u64 (bAnd .u64 a1 (4294967295 : Int))), (3, .int .u64 (bAnd .u64 a2 (4294967295 : Int))), (10, .int .i64 32), (17, .int .u8 11), (33, .bool false)] (by kernel_rfl) ?_
  refine WR.fin (by kernel_rfl) ?_
  refine go hK17 ?_
  refine CW.no (by kernel_rfl) ?_
  refine CW.region ?_
  refine WR.batch 2 [(0, .int .u8 11), (1, .bool true), (2, .int .u64 (bAnd .u64 a1 (4294967295 : Int))), (3, .int .u64 (bAnd .u64 a2 (4294967295 : Int))), (10, .int .i64 32), (17, .int .u8 11), (33, .bool false)] (by kernel_rfl) ?_
  refine WR.fin (by kernel_rfl) ?_
  refine go hK16 ?_
  refine CW.no (by kernel_rfl) ?_
  refine CW.seq fun K18 hK18 => ?_
  refine CW.seq fun K19 hK19 => ?_
  refine CW.region ?_
  refine WR.batch 2 [(0, .int .u8 11), (1, .bool true), (2, .int .u64 (bAnd .u64 a1 (4294967295 : Int))), (3, .int .u64 (bAnd .u64 a2 (4294967295 : Int))), (10, .int .i64 32), (17, .int .u8 11), (48, .bool false)] (by kernel_rfl) ?_
  refine WR.fin (by kernel_rfl) ?_
  refine go hK19 ?_
  refine CW.no (by kernel_rfl) ?_
  refine CW.seq fun K20 hK20 => ?_
  refine CW.region ?_
  refine WR.batch 2 [(0, .int .u8 11), (1, .bool true), (2, .int .u64 (bAnd .u64 a1 (4294967295 : Int))), (3, .int .u64 (bAnd .u64 a2 (4294967295 : Int))), (10, .int .i64 32), (17, .int .u8 11), (48, .bool false)] (by kernel_rfl) ?_
  refine WR.fin (by kernel_rfl) ?_
  refine go hK20 ?_
  refine CW.no (by kernel_rfl) ?_
  refine CW.region ?_
  refine WR.batch 2 [(0, .int .u8 11), (1, .bool true), (2, .int .u64 (bAnd .u64 a1 (4294967295 : Int))), (3, .int .u64 (bAnd .u64 a2 (4294967295 : Int))), (10, .int .i64 32), (17, .int .u8 11), (48, .bool false)] (by kernel_rfl) ?_
  refine WR.fin (by kernel_rfl) ?_
  refine go hK18 ?_
  refine CW.no (by kernel_rfl) ?_
  refine CW.seq fun K21 hK21 => ?_
  refine CW.region ?_
  refine WR.batch 2 [(1, .bool true), (2, .int .u64 (bAnd .u64 a1 (4294967295 : Int))), (3, .int .u64 (bAnd .u64 a2 (4294967295 : Int))), (10, .int .i64 32), (17, .int .u8 11), (56, .bool false)] (by kernel_rfl) ?_
  refine WR.fin (by kernel_rfl) ?_
  refine go hK21 ?_
  refine CW.no (by kernel_rfl) ?_
  refine CW.seq fun K22 hK22 => ?_
  refine CW.region ?_
  refine WR.batch 2 [(1, .bool true), (2, .int .u64 (bAnd .u64 a1 (4294967295 : Int))), (3, .int .u64 (bAnd .u64 a2 (4294967295 : Int))), (10, .int .i64 32), (17, .int .u8 11), (66, .bool false)] (by kernel_rfl) ?_
  refine WR.fin (by kernel_rfl) ?_
  refine go hK22 ?_
  refine CW.no (by kernel_rfl) ?_
  refine CW.seq fun K23 hK23 => ?_
  refine CW.region ?_
  refine WR.batch 2 [(1, .bool true), (2, .int .u64 (bAnd .u64 a1 (4294967295 : Int))), (3, .int .u64 (bAnd .u64 a2 (4294967295 : Int))), (10, .int .i64 32), (17, .int .u8 11), (77, .bool true)] (by kernel_rfl) ?_
  refine WR.fin (by kernel_rfl) ?_
  refine go hK23 ?_
  refine CW.yes (by kernel_rfl) ?_
  refine CW.regionQ (by kernel_rfl) (by kernel_rfl) ?_
  refine WQ.val (dst := some 79) (.int .u64 (bAnd .u64 a1 (4294967295 : Int))) (fun _ => by kernel_rfl) ?_
  refine WQ.val (dst := some 80) (.int .u64 (bAnd .u64 a2 (4294967295 : Int))) (fun _ => by kernel_rfl) ?_
  refine WQ.val (dst := some 81) (.int .i64 32) (fun _ => by kernel_rfl) ?_
  refine WQ.val (dst := some 82) (.int .u64 32) (fun _ => by kernel_rfl) ?_
  refine WQ.val (dst := some 83) (.int .u64 (((bAnd .u64 a2 (4294967295 : Int))).tmod (32 : Int))) (run_rem (kk := .u64) (x := (bAnd .u64 a2 (4294967295 : Int))) (y := (32 : Int)) (by kernel_rfl) (by omega)) ?_
  have hm24 := tmod_lt (x := (bAnd .u64 a2 (4294967295 : Int))) (y := (32 : Int)) (show IU64 (bAnd .u64 a2 (4294967295 : Int)) from (wrapU64 _)).1 (by omega)
  have hm25 := tmod_rng (x := (bAnd .u64 a2 (4294967295 : Int))) (y := (32 : Int)) (m := 18446744073709551615) (wrapU64 _) (by omega)
  refine WQ.val (dst := some 84) (.int .i64 (IntKind.i64.wrap ((((bAnd .u64 a2 (4294967295 : Int))).tmod (32 : Int))))) (fun _ => by kernel_rfl) ?_
  have hw26 : IntKind.i64.wrap ((((bAnd .u64 a2 (4294967295 : Int))).tmod (32 : Int))) = ((((bAnd .u64 a2 (4294967295 : Int))).tmod (32 : Int))) := IntWalk.i64_in _ (by have hh : IU64 (((bAnd .u64 a2 (4294967295 : Int))).tmod (32 : Int)) := (tmod_rng (wrapU64 _) (by omega)); omega)
  rw [hw26]
  refine WQ.val (dst := some 85) (.int .i64 (IntKind.i64.wrap (0 - ((((bAnd .u64 a2 (4294967295 : Int))).tmod (32 : Int)))))) (fun _ => by kernel_rfl) ?_
  have hw27 : IntKind.i64.wrap (0 - ((((bAnd .u64 a2 (4294967295 : Int))).tmod (32 : Int)))) = (0 - ((((bAnd .u64 a2 (4294967295 : Int))).tmod (32 : Int)))) := IntWalk.i64_in _ (by omega)
  rw [hw27]
  refine WQ.val (dst := some 86) (.int .i64 32) (fun _ => by kernel_rfl) ?_
  refine WQ.val (dst := some 87) (.int .u64 (bAnd .u64 a1 (4294967295 : Int))) (fun _ => by kernel_rfl) ?_
  refine WQ.val (dst := some 88) (.int .i64 32) (fun _ => by kernel_rfl) ?_
  refine WQ.val (dst := some 89) (.int .i64 31) (fun _ => by kernel_rfl) ?_
  obtain ⟨x28, hx29⟩ : ∃ x, ref01_bit (bAnd .u64 a1 (4294967295 : Int)) (31 : Int) = x := ⟨_, rfl⟩
  have hs30 := letS hx29 hs6
  refine WQ.call (dst := some 90) (.bool x28) (fun _ => by kernel_rfl) (fun _ _ h h' => h.pure h') (fun wq hq => retE (g := (fun r : Bool => (.bool r : Value))) hx29 (ref01_bit_any (bAnd .u64 a1 (4294967295 : Int)) (31 : Int) wq  (wrapU64 _) (by omega) (by omega))) ?_
  obtain ⟨x31, hx32⟩ : ∃ x, ref01_moved (bAnd .u64 a1 (4294967295 : Int)) (0 - ((((bAnd .u64 a2 (4294967295 : Int))).tmod (32 : Int)))) (32 : Int) x28 = x := ⟨_, rfl⟩
  have hs34 := letS hx32 hs30
  have hx33 : IU64 x31 := by have : 0 ≤ (((bAnd .u64 a2 (4294967295 : Int))).tmod (32 : Int)) ∧ (((bAnd .u64 a2 (4294967295 : Int))).tmod (32 : Int)) < (32 : Int) := ⟨(tmod_rng (m := 18446744073709551615) (wrapU64 _) (by omega)).1, tmod_lt (show IU64 (bAnd .u64 a2 (4294967295 : Int)) from (wrapU64 _)).1 (by omega)⟩; rw [← hx32]; exact ref01_moved_ok (bAnd .u64 a1 (4294967295 : Int)) (0 - ((((bAnd .u64 a2 (4294967295 : Int))).tmod (32 : Int)))) (32 : Int) x28 (wrapU64 _) (by omega) (by omega) (by omega)
  refine WQ.call (dst := some 91) (.int .u64 x31) (fun _ => by kernel_rfl) (fun _ _ h h' => h.pure h') (fun wq hq => retE (g := (fun r : Int => (.int .u64 r : Value))) hx32 (ref01_moved_any (bAnd .u64 a1 (4294967295 : Int)) (0 - ((((bAnd .u64 a2 (4294967295 : Int))).tmod (32 : Int)))) (32 : Int) x28 wq  (wrapU64 _) (by omega) (by omega) (by omega))) ?_
  refine WQ.val (dst := some 11) (.int .u64 x31) (fun _ => by kernel_rfl) ?_
  refine WQ.fin (by kernel_rfl) ?_
  intro w35 hc36
  have hz38 := hc36.size
  have hC37 := (Chg.refl [] w).pure hc36
  refine go hK11 ?_
  refine CW.seq fun K39 hK39 => ?_
  refine CW.seq fun K40 hK40 => ?_
  refine CW.region ?_
  refine WR.batch 1 [(11, .int .u64 x31), (99, .bool true)] (by kernel_rfl) ?_
  refine WR.fin (by kernel_rfl) ?_
  refine go hK40 ?_
  refine CW.yes (by kernel_rfl) ?_
  refine CW.region ?_
  refine WR.batch 3 [(11, .int .u64 (bAnd .u64 x31 (4294967295 : Int)))] (by kernel_rfl) ?_
  refine WR.fin (by kernel_rfl) ?_
  refine go hK39 ?_
  refine CW.seq fun K41 hK41 => ?_
  refine CW.region ?_
  refine WR.batch 3 [(8, .int .u64 (bAnd .u64 x31 (4294967295 : Int))), (9, .int .i64 0)] (by kernel_rfl) ?_
  refine WR.fin (by kernel_rfl) ?_
  refine go hK41 ?_
  refine CW.ret ?_
  exact retV (.tuple #[.int .u64 (bAnd .u64 x31 (4294967295 : Int)), .int .i64 0]) (by kernel_rfl) (⟨hC37, (congrArg (fun r : (Int × Int) => (.tuple #[.int .u64 r.1, .int .i64 r.2] : Value)) hs34).symm⟩)
 have hs42 := ifF ht5 hs
 refine CW.keep [0, 1, 2, 3, 10] (F' := [(0, .int .u8 11), (1, .bool a0), (2, .int .u64 a1), (3, .int .u64 a2), (10, .int .i64 64)]) (by kernel_rfl) ?_
 refine CW.eqF (F' := [(0, .int .u8 11), (1, .bool false), (2, .int .u64 a1), (3, .int .u64 a2), (10, .int .i64 64)]) (by rw [ht5]) ?_
 have hk43 := ht5
 refine CW.skip ?_
 refine go hK3 ?_
 refine CW.seq fun K44 hK44 => ?_
 refine CW.region ?_
 refine WR.batch 1 [(0, .int .u8 11), (1, .bool false), (2, .int .u64 a1), (3, .int .u64 a2), (10, .int .i64 64)] (by kernel_rfl) ?_
 refine WR.fin (by kernel_rfl) ?_
 refine go hK44 ?_
 refine CW.seq fun K45 hK45 => ?_
 refine CW.seq fun K46 hK46 => ?_
 refine CW.region ?_
 refine WR.batch 1 [(0, .int .u8 11), (1, .bool false), (2, .int .u64 a1), (3, .int .u64 a2), (10, .int .i64 64), (17, .int .u8 11)] (by kernel_rfl) ?_
 refine WR.fin (by kernel_rfl) ?_
 refine go hK46 ?_
 refine CW.block ?_
 refine CW.seq fun K47 hK47 => ?_
 refine CW.region ?_
 refine WR.batch 2 [(0, .int .u8 11), (1, .bool false), (2, .int .u64 a1), (3, .int .u64 a2), (10, .int .i64 64), (17, .int .u8 11), (18, .bool false)] (by kernel_rfl) ?_
 refine WR.fin (by kernel_rfl) ?_
 refine go hK47 ?_
 refine CW.no (by kernel_rfl) ?_
 refine CW.seq fun K48 hK48 => ?_
 refine CW.region ?_
 refine WR.batch 2 [(0, .int .u8 11), (1, .bool false), (2, .int .u64 a1), (3, .int .u64 a2), (10, .int .i64 64), (17, .int .u8 11), (23, .bool false)] (by kernel_rfl) ?_
 refine WR.fin (by kernel_rfl) ?_
 refine go hK48 ?_
 refine CW.no (by kernel_rfl) ?_
 refine CW.seq fun K49 hK49 => ?_
 refine CW.region ?_
 refine WR.batch 2 [(0, .int .u8 11), (1, .bool false), (2, .int .u64 a1), (3, .int .u64 a2), (10, .int .i64 64), (17, .int .u8 11), (28, .bool false)] (by kernel_rfl) ?_
 refine WR.fin (by kernel_rfl) ?_
 refine go hK49 ?_
 refine CW.no (by kernel_rfl) ?_
 refine CW.seq fun K50 hK50 => ?_
 refine CW.seq fun K51 hK51 => ?_
 refine CW.region ?_
 refine WR.batch 2 [(0, .int .u8 11), (1, .bool false), (2, .int .u64 a1), (3, .int .u64 a2), (10, .int .i64 64), (17, .int .u8 11), (33, .bool false)] (by kernel_rfl) ?_
 refine WR.fin (by kernel_rfl) ?_
 refine go hK51 ?_
 refine CW.no (by kernel_rfl) ?_
 refine CW.region ?_
 refine WR.batch 2 [(0, .int .u8 11), (1, .bool false), (2, .int .u64 a1), (3, .int .u64 a2), (10, .int .i64 64), (17, .int .u8 11), (33, .bool false)] (by kernel_rfl) ?_
 refine WR.fin (by kernel_rfl) ?_
 refine go hK50 ?_
 refine CW.no (by kernel_rfl) ?_
 refine CW.seq fun K52 hK52 => ?_
 refine CW.seq fun K53 hK53 => ?_
 refine CW.region ?_
 refine WR.batch 2 [(0, .int .u8 11), (1, .bool false), (2, .int .u64 a1), (3, .int .u64 a2), (10, .int .i64 64), (17, .int .u8 11), (48, .bool false)] (by kernel_rfl) ?_
 refine WR.fin (by kernel_rfl) ?_
 refine go hK53 ?_
 refine CW.no (by kernel_rfl) ?_
 refine CW.seq fun K54 hK54 => ?_
 refine CW.region ?_
 refine WR.batch 2 [(0, .int .u8 11), (1, .bool false), (2, .int .u64 a1), (3, .int .u64 a2), (10, .int .i64 64), (17, .int .u8 11), (48, .bool false)] (by kernel_rfl) ?_
 refine WR.fin (by kernel_rfl) ?_
 refine go hK54 ?_
 refine CW.no (by kernel_rfl) ?_
 refine CW.region ?_
 refine WR.batch 2 [(0, .int .u8 11), (1, .bool false), (2, .int .u64 a1), (3, .int .u64 a2), (10, .int .i64 64), (17, .int .u8 11), (48, .bool false)] (by kernel_rfl) ?_
 refine WR.fin (by kernel_rfl) ?_
 refine go hK52 ?_
 refine CW.no (by kernel_rfl) ?_
 refine CW.seq fun K55 hK55 => ?_
 refine CW.region ?_
 refine WR.batch 2 [(1, .bool false), (2, .int .u64 a1), (3, .int .u64 a2), (10, .int .i64 64), (17, .int .u8 11), (56, .bool false)] (by kernel_rfl) ?_
 refine WR.fin (by kernel_rfl) ?_
 refine go hK55 ?_
 refine CW.no (by kernel_rfl) ?_
 refine CW.seq fun K56 hK56 => ?_
 refine CW.region ?_
 refine WR.batch 2 [(1, .bool false), (2, .int .u64 a1), (3, .int .u64 a2), (10, .int .i64 64), (17, .int .u8 11), (66, .bool false)] (by kernel_rfl) ?_
 refine WR.fin (by kernel_rfl) ?_
 refine go hK56 ?_
 refine CW.no (by kernel_rfl) ?_
 refine CW.seq fun K57 hK57 => ?_
 refine CW.region ?_
 refine WR.batch 2 [(1, .bool false), (2, .int .u64 a1), (3, .int .u64 a2), (10, .int .i64 64), (17, .int .u8 11), (77, .bool true)] (by kernel_rfl) ?_
 refine WR.fin (by kernel_rfl) ?_
 refine go hK57 ?_
 refine CW.yes (by kernel_rfl) ?_
 refine CW.regionQ (by kernel_rfl) (by kernel_rfl) ?_
 refine WQ.val (dst := some 79) (.int .u64 a1) (fun _ => by kernel_rfl) ?_
 refine WQ.val (dst := some 80) (.int .u64 a2) (fun _ => by kernel_rfl) ?_
 refine WQ.val (dst := some 81) (.int .i64 64) (fun _ => by kernel_rfl) ?_
 refine WQ.val (dst := some 82) (.int .u64 64) (fun _ => by kernel_rfl) ?_
 refine WQ.val (dst := some 83) (.int .u64 ((a2).tmod (64 : Int))) (run_rem (kk := .u64) (x := a2) (y := (64 : Int)) (by kernel_rfl) (by omega)) ?_
 have hm58 := tmod_lt (x := a2) (y := (64 : Int)) (by omega) (by omega)
 have hm59 := tmod_rng (x := a2) (y := (64 : Int)) (m := 18446744073709551615) (by omega) (by omega)
 refine WQ.val (dst := some 84) (.int .i64 (IntKind.i64.wrap (((a2).tmod (64 : Int))))) (fun _ => by kernel_rfl) ?_
 have hw60 : IntKind.i64.wrap (((a2).tmod (64 : Int))) = (((a2).tmod (64 : Int))) := IntWalk.i64_in _ (by have hh : IU64 ((a2).tmod (64 : Int)) := (tmod_rng (by omega) (by omega)); omega)
 rw [hw60]
 refine WQ.val (dst := some 85) (.int .i64 (IntKind.i64.wrap (0 - (((a2).tmod (64 : Int)))))) (fun _ => by kernel_rfl) ?_
 have hw61 : IntKind.i64.wrap (0 - (((a2).tmod (64 : Int)))) = (0 - (((a2).tmod (64 : Int)))) := IntWalk.i64_in _ (by omega)
 rw [hw61]
 refine WQ.val (dst := some 86) (.int .i64 64) (fun _ => by kernel_rfl) ?_
 refine WQ.val (dst := some 87) (.int .u64 a1) (fun _ => by kernel_rfl) ?_
 refine WQ.val (dst := some 88) (.int .i64 64) (fun _ => by kernel_rfl) ?_
 refine WQ.val (dst := some 89) (.int .i64 63) (fun _ => by kernel_rfl) ?_
 obtain ⟨x62, hx63⟩ : ∃ x, ref01_bit a1 (63 : Int) = x := ⟨_, rfl⟩
 have hs64 := letS hx63 hs42
 refine WQ.call (dst := some 90) (.bool x62) (fun _ => by kernel_rfl) (fun _ _ h h' => h.pure h') (fun wq hq => retE (g := (fun r : Bool => (.bool r : Value))) hx63 (ref01_bit_any a1 (63 : Int) wq  (by omega) (by omega) (by omega))) ?_
 obtain ⟨x65, hx66⟩ : ∃ x, ref01_moved a1 (0 - (((a2).tmod (64 : Int)))) (64 : Int) x62 = x := ⟨_, rfl⟩
 have hs68 := letS hx66 hs64
 have hx67 : IU64 x65 := by have : 0 ≤ ((a2).tmod (64 : Int)) ∧ ((a2).tmod (64 : Int)) < (64 : Int) := ⟨(tmod_rng (m := 18446744073709551615) (by omega) (by omega)).1, tmod_lt (by omega) (by omega)⟩; rw [← hx66]; exact ref01_moved_ok a1 (0 - (((a2).tmod (64 : Int)))) (64 : Int) x62 (by omega) (by omega) (by omega) (by omega)
 refine WQ.call (dst := some 91) (.int .u64 x65) (fun _ => by kernel_rfl) (fun _ _ h h' => h.pure h') (fun wq hq => retE (g := (fun r : Int => (.int .u64 r : Value))) hx66 (ref01_moved_any a1 (0 - (((a2).tmod (64 : Int)))) (64 : Int) x62 wq  (by omega) (by omega) (by omega) (by omega))) ?_
 refine WQ.val (dst := some 11) (.int .u64 x65) (fun _ => by kernel_rfl) ?_
 refine WQ.fin (by kernel_rfl) ?_
 intro w69 hc70
 have hz72 := hc70.size
 have hC71 := (Chg.refl [] w).pure hc70
 refine go hK45 ?_
 refine CW.seq fun K73 hK73 => ?_
 refine CW.seq fun K74 hK74 => ?_
 refine CW.region ?_
 refine WR.batch 1 [(11, .int .u64 x65), (99, .bool false)] (by kernel_rfl) ?_
 refine WR.fin (by kernel_rfl) ?_
 refine go hK74 ?_
 refine CW.no (by kernel_rfl) ?_
 refine CW.skip ?_
 refine go hK73 ?_
 refine CW.seq fun K75 hK75 => ?_
 refine CW.region ?_
 refine WR.batch 3 [(8, .int .u64 x65), (9, .int .i64 0)] (by kernel_rfl) ?_
 refine WR.fin (by kernel_rfl) ?_
 refine go hK75 ?_
 refine CW.ret ?_
 exact retV (.tuple #[.int .u64 x65, .int .i64 0]) (by kernel_rfl) (⟨hC71, (congrArg (fun r : (Int × Int) => (.tuple #[.int .u64 r.1, .int .i64 r.2] : Value)) hs68).symm⟩)

def ref11_shifts (a0 : Int) (a1 : Bool) (a2 : TSpan) (a3 : TSpan)  : (TSpan × Bool) := (letF (ref11_most a1) fun x33 => (letF (ref11_bits a1) fun x41 => (if (a0 == (10 : Int)) then (letF (ref11_single a3) fun x58 => (if x58 then ((⟨(sShr .u64 a2.Lo ((a3.Lo).tmod x41)), (sShr .u64 a2.Hi ((a3.Lo).tmod x41))⟩ : TSpan), true) else (if decide (a3.Hi < x41) then ((⟨(sShr .u64 a2.Lo a3.Hi), (sShr .u64 a2.Hi a3.Lo)⟩ : TSpan), true) else ((⟨(0 : Int), a2.Hi⟩ : TSpan), true)))) else (letF (ref11_single a3) fun x100 => (if (!x100) then ((⟨(0 : Int), (0 : Int)⟩ : TSpan), false) else (if (a0 == (9 : Int)) then ((⟨(bAnd .u64 (sShl .u64 a2.Lo ((a3.Lo).tmod x41)) x33), (bAnd .u64 (sShl .u64 a2.Hi ((a3.Lo).tmod x41)) x33)⟩ : TSpan), decide (a2.Hi ≤ (sShr .u64 x33 ((a3.Lo).tmod x41)))) else (letF (ref01_Do_11 a1 a2.Lo ((a3.Lo).tmod x41)) fun x204 => (letF (ref01_Do_11 a1 a2.Hi ((a3.Lo).tmod x41)) fun x214 => ((⟨x204.1, x214.1⟩ : TSpan), ((ref11_below a2.Lo a1) == (ref11_below a2.Hi a1)))))))))))

theorem ref11_shifts_ok (a0 : Int) (a1 : Bool) (a2 : TSpan) (a3 : TSpan)  (_h_a0 : IU8 a0) (_h_a2 : IU64 a2.Lo ∧ IU64 a2.Hi) (_h_a3 : IU64 a3.Lo ∧ IU64 a3.Hi)  : IU64 (ref11_shifts a0 a1 a2 a3).1.Lo ∧ IU64 (ref11_shifts a0 a1 a2 a3).1.Hi := by
 rw [ref11_shifts.eq_1]
 refine letR (p := fun r : (TSpan × Bool) => IU64 r.1.Lo ∧ IU64 r.1.Hi) fun x33 hx34 => ?_
 have hx35 : IU64 x33 := by rw [← hx34]; exact ref11_most_ok a1 
 refine letR (p := fun r : (TSpan × Bool) => IU64 r.1.Lo ∧ IU64 r.1.Hi) fun x41 hx42 => ?_
 have hxx41_ : x41 = 32 ∨ x41 = 64 := by rw [← hx42]; exact ref11_bits_two _
 have hx43 : IU64 x41 := by rw [← hx42]; exact ref11_bits_ok a1 
 refine iteR (p := fun r : (TSpan × Bool) => IU64 r.1.Lo ∧ IU64 r.1.Hi) (fun hi1001 => ?_) (fun hi1001 => ?_)
 ·
  replace hi1001 : a0 = (10 : Int) := (bEqT hi1001)
  refine letR (p := fun r : (TSpan × Bool) => IU64 r.1.Lo ∧ IU64 r.1.Hi) fun x58 _ => ?_
  refine iteR (p := fun r : (TSpan × Bool) => IU64 r.1.Lo ∧ IU64 r.1.Hi) (fun hi1002 => ?_) (fun hi1002 => ?_)
  ·
   exact (by exact (show IU64 (sShr .u64 a2.Lo ((a3.Lo).tmod x41)) ∧ IU64 (sShr .u64 a2.Hi ((a3.Lo).tmod x41)) from ⟨(sShr_rng (by omega)), (sShr_rng (by omega))⟩))
  refine iteR (p := fun r : (TSpan × Bool) => IU64 r.1.Lo ∧ IU64 r.1.Hi) (fun hi1003 => ?_) (fun hi1003 => ?_)
  ·
   replace hi1003 : a3.Hi < x41 := (of_decide_eq_true hi1003)
   exact (by exact (show IU64 (sShr .u64 a2.Lo a3.Hi) ∧ IU64 (sShr .u64 a2.Hi a3.Lo) from ⟨(sShr_rng (by omega)), (sShr_rng (by omega))⟩))
  replace hi1003 : ¬ (a3.Hi < x41) := (of_decide_eq_false hi1003)
  exact (by exact (show IU64 (0 : Int) ∧ IU64 a2.Hi from ⟨(by omega), (by omega)⟩))
 replace hi1001 : a0 ≠ (10 : Int) := (bEqF hi1001)
 refine letR (p := fun r : (TSpan × Bool) => IU64 r.1.Lo ∧ IU64 r.1.Hi) fun x100 _ => ?_
 refine iteR (p := fun r : (TSpan × Bool) => IU64 r.1.Lo ∧ IU64 r.1.Hi) (fun hi1004 => ?_) (fun hi1004 => ?_)
 ·
  replace hi1004 : x100 = false := (bNotT hi1004)
  exact (by exact (show IU64 (0 : Int) ∧ IU64 (0 : Int) from ⟨(by omega), (by omega)⟩))
 replace hi1004 : x100 = true := (bNotF hi1004)
 refine iteR (p := fun r : (TSpan × Bool) => IU64 r.1.Lo ∧ IU64 r.1.Hi) (fun hi1005 => ?_) (fun hi1005 => ?_)
 ·
  replace hi1005 : a0 = (9 : Int) := (bEqT hi1005)
  exact (by exact (show IU64 (bAnd .u64 (sShl .u64 a2.Lo ((a3.Lo).tmod x41)) x33) ∧ IU64 (bAnd .u64 (sShl .u64 a2.Hi ((a3.Lo).tmod x41)) x33) from ⟨(wrapU64 _), (wrapU64 _)⟩))
 replace hi1005 : a0 ≠ (9 : Int) := (bEqF hi1005)
 refine letR (p := fun r : (TSpan × Bool) => IU64 r.1.Lo ∧ IU64 r.1.Hi) fun x204 hx205 => ?_
 have hx206 : IU64 x204.1 ∧ II64 x204.2 := by rw [← hx205]; exact ref01_Do_11_ok a1 a2.Lo ((a3.Lo).tmod x41) (by omega) (tmod_rng (by omega) (by omega)) 
 refine letR (p := fun r : (TSpan × Bool) => IU64 r.1.Lo ∧ IU64 r.1.Hi) fun x214 hx215 => ?_
 have hx216 : IU64 x214.1 ∧ II64 x214.2 := by rw [← hx215]; exact ref01_Do_11_ok a1 a2.Hi ((a3.Lo).tmod x41) (by omega) (tmod_rng (by omega) (by omega)) 
 exact (by exact (show IU64 x204.1 ∧ IU64 x214.1 from ⟨(by omega), (by omega)⟩))

set_option maxRecDepth 100000 in
set_option maxHeartbeats 4000000 in
theorem ref11_shifts_any (a0 : Int) (a1 : Bool) (a2 : TSpan) (a3 : TSpan)   (w : World)  (_h_a0 : IU8 a0) (_h_a2 : IU64 a2.Lo ∧ IU64 a2.Hi) (_h_a3 : IU64 a3.Lo ∧ IU64 a3.Hi)  : Calls Try.prog 71 #[.int .u8 a0, .bool a1, .agg #[.int .u64 a2.Lo, .int .u64 a2.Hi], .agg #[.int .u64 a3.Lo, .int .u64 a3.Hi]] w (RetV w (.tuple #[TSpan.v (ref11_shifts a0 a1 a2 a3).1, .bool (ref11_shifts a0 a1 a2 a3).2])) := by
 have hs := ref11_shifts.eq_1 a0 a1 a2 a3
 refine calls_of_CW Try.func71 rfl (n := 111) Try.ntmps71 (by kernel_rfl) [0, 1, 2, 3] (F := [(0, .int .u8 a0), (1, .bool a1), (2, .agg #[.int .u64 a2.Lo, .int .u64 a2.Hi]), (3, .agg #[.int .u64 a3.Lo, .int .u64 a3.Hi])]) (by kernel_rfl) ?_
 refine CW.seq fun K1 hK1 => ?_
 refine CW.region ?_
 refine WR.box (dst := some 6) (e := 25) (v := .agg #[.int .u64 a2.Lo, .int .u64 a2.Hi]) (by kernel_rfl) #[.int .u64 a2.Lo, .int .u64 a2.Hi] (by kernel_rfl) ?_
 intro g2 w3 hN4
 have hf6 : w.heap.size ≤ g2 := hN4.fresh
 have hfr8 := hN4.fresh
 have hc7 := hN4.chg
 have hz10 := hc7.size
 have hC9 := (Chg.refl [] w).pure hc7
 have hb5 := hN4.blk
 have hg11 := hb5.lt
 refine WR.box (dst := some 7) (e := 25) (v := .agg #[.int .u64 a3.Lo, .int .u64 a3.Hi]) (by kernel_rfl) #[.int .u64 a3.Lo, .int .u64 a3.Hi] (by kernel_rfl) ?_
 intro g12 w13 hN14
 have hf16 : w.heap.size ≤ g12 := Nat.le_trans hC9.size hN14.fresh
 have hfr18 := hN14.fresh
 have hc17 := hN14.chg
 have hz20 := hc17.size
 have hC19 := hC9.pure hc17
 have hb15 := hN14.blk
 have hg21 := hb15.lt
 refine WR.alloc (dst := some 8) (e := 25) (by kernel_rfl) #[.int .u64 0, .int .u64 0] (by kernel_rfl) ?_
 intro g22 w23 hN24
 have hf26 : w.heap.size ≤ g22 := Nat.le_trans hC19.size hN24.fresh
 have hfr28 := hN24.fresh
 have hc27 := hN24.chg
 have hz30 := hc27.size
 have hC29 := hC19.pure hc27
 have hb25 := hN24.blk
 have hg31 := hb25.lt
 refine WR.batch 1 [(0, .int .u8 a0), (1, .bool a1), (6, pt g2 0), (7, pt g12 0), (8, pt g22 0)] (by kernel_rfl) ?_
 refine WR.fin (by kernel_rfl) ?_
 refine go hK1 ?_
 refine CW.seq fun K32 hK32 => ?_
 refine CW.region ?_
 refine WR.batch 1 [(0, .int .u8 a0), (1, .bool a1), (6, pt g2 0), (7, pt g12 0), (8, pt g22 0), (17, .bool a1)] (by kernel_rfl) ?_
 obtain ⟨x33, hx34⟩ : ∃ x, ref11_most a1 = x := ⟨_, rfl⟩
 have hs36 := letS hx34 hs
 have hx35 : IU64 x33 := by rw [← hx34]; exact ref11_most_ok a1 
 refine WR.call (dst := some 18) (by kernel_rfl) (retE (g := (fun r : Int => (.int .u64 r : Value))) hx34 (ref11_most_any a1 w23  )) ?_
 rintro _ w37 hc38 rfl
 have hz40 := hc38.size
 have hC39 := hC29.pure hc38
 refine WR.batch 1 [(0, .int .u8 a0), (1, .bool a1), (6, pt g2 0), (7, pt g12 0), (8, pt g22 0), (18, .int .u64 x33), (19, .bool a1)] (by kernel_rfl) ?_
 obtain ⟨x41, hx42⟩ : ∃ x, ref11_bits a1 = x := ⟨_, rfl⟩
 have hs44 := letS hx42 hs36
 have hxx41_ : x41 = 32 ∨ x41 = 64 := by rw [← hx42]; exact ref11_bits_two _
 have hx43 : IU64 x41 := by rw [← hx42]; exact ref11_bits_ok a1 
 refine WR.call (dst := some 20) (by kernel_rfl) (retE (g := (fun r : Int => (.int .u64 r : Value))) hx42 (ref11_bits_any a1 w37  )) ?_
 rintro _ w45 hc46 rfl
 have hz48 := hc46.size
 have hC47 := hC39.pure hc46
 refine WR.batch 2 [(0, .int .u8 a0), (1, .bool a1), (6, pt g2 0), (7, pt g12 0), (8, pt g22 0), (10, .int .u64 x33), (11, .int .u64 x41)] (by kernel_rfl) ?_
 refine WR.fin (by kernel_rfl) ?_
 refine go hK32 ?_
 refine CW.seq fun K49 hK49 => ?_
 refine CW.region ?_
 refine WR.batch 1 [(0, .int .u8 a0), (1, .bool a1), (6, pt g2 0), (7, pt g12 0), (8, pt g22 0), (10, .int .u64 x33), (11, .int .u64 x41), (21, pt g12 0)] (by kernel_rfl) ?_
 have hb50 := ((hb15.pure hc27).pure hc38).pure hc46
 refine WR.load (dst := some 22) (t := 23) (o := 0) hb50 (by kernel_rfl) (.int .u64 a3.Lo) (by kernel_rfl) ?_
 refine WR.batch 1 [(0, .int .u8 a0), (1, .bool a1), (6, pt g2 0), (7, pt g12 0), (8, pt g22 0), (10, .int .u64 x33), (11, .int .u64 x41), (22, .int .u64 a3.Lo), (23, .int .u64 x41)] (by kernel_rfl) ?_
 refine WR.valR (dst := some 24) (v := .int .u64 ((a3.Lo).tmod x41)) (w' := w45) (run_rem (kk := .u64) (x := a3.Lo) (y := x41) (by kernel_rfl) (by omega) w45) ?_
 have hm51 := tmod_rng (x := a3.Lo) (y := x41) (m := 18446744073709551615) (by omega) (by omega)
 refine WR.batch 1 [(0, .int .u8 a0), (1, .bool a1), (6, pt g2 0), (7, pt g12 0), (8, pt g22 0), (10, .int .u64 x33), (11, .int .u64 x41), (12, .int .u64 ((a3.Lo).tmod x41))] (by kernel_rfl) ?_
 refine WR.fin (by kernel_rfl) ?_
 refine go hK49 ?_
 refine CW.seq fun K52 hK52 => ?_
 refine CW.seq fun K53 hK53 => ?_
 refine CW.region ?_
 refine WR.batch 2 [(0, .int .u8 a0), (1, .bool a1), (6, pt g2 0), (7, pt g12 0), (8, pt g22 0), (10, .int .u64 x33), (11, .int .u64 x41), (12, .int .u64 ((a3.Lo).tmod x41)), (26, .bool (a0 == (10 : Int)))] (by kernel_rfl) ?_
 refine WR.fin (by kernel_rfl) ?_
 refine go hK53 ?_
 refine CW.cond ((a0 == (10 : Int))) (by kernel_rfl) (fun ht54 => ?_) (fun ht54 => ?_)
 ·
  have hs55 := ifT ht54 hs44
  replace ht54 : a0 = (10 : Int) := (bEqT ht54)
  refine CW.seq fun K56 hK56 => ?_
  refine CW.block ?_
  refine CW.seq fun K57 hK57 => ?_
  refine CW.region ?_
  refine WR.load (dst := some 28) (t := 25) (o := 0) hb50 (by kernel_rfl) (.agg #[.int .u64 a3.Lo, .int .u64 a3.Hi]) (by kernel_rfl) ?_
  obtain ⟨x58, hx59⟩ : ∃ x, ref11_single a3 = x := ⟨_, rfl⟩
  have hs60 := letS hx59 hs55
  refine WR.call (dst := some 29) (by kernel_rfl) (retE (g := (fun r : Bool => (.bool r : Value))) hx59 (ref11_single_any a3 w45  ⟨(by omega), (by omega)⟩ )) ?_
  rintro _ w61 hc62 rfl
  have hz64 := hc62.size
  have hC63 := hC47.pure hc62
  refine WR.batch 1 [(6, pt g2 0), (7, pt g12 0), (8, pt g22 0), (11, .int .u64 x41), (12, .int .u64 ((a3.Lo).tmod x41)), (27, .bool x58)] (by kernel_rfl) ?_
  refine WR.fin (by kernel_rfl) ?_
  refine go hK57 ?_
  refine CW.cond (x58) (by kernel_rfl) (fun ht65 => ?_) (fun ht65 => ?_)
  ·
   have hs66 := ifT ht65 hs60
   refine CW.seq fun K67 hK67 => ?_
   refine CW.region ?_
   refine WR.batch 1 [(6, pt g2 0), (8, pt g22 0), (12, .int .u64 ((a3.Lo).tmod x41)), (30, pt g2 0)] (by kernel_rfl) ?_
   have hb68 := ((((hb5.pure hc17).pure hc27).pure hc38).pure hc46).pure hc62
   refine WR.load (dst := some 31) (t := 23) (o := 0) hb68 (by kernel_rfl) (.int .u64 a2.Lo) (by kernel_rfl) ?_
   refine WR.batch 1 [(6, pt g2 0), (8, pt g22 0), (12, .int .u64 ((a3.Lo).tmod x41)), (31, .int .u64 a2.Lo), (32, .int .u64 ((a3.Lo).tmod x41))] (by kernel_rfl) ?_
   refine WR.valR (dst := some 33) (v := .int .u64 (sShr .u64 a2.Lo ((a3.Lo).tmod x41))) (w' := w61) (run_shr (kk := .u64) (k' := .u64) (x := a2.Lo) (y := ((a3.Lo).tmod x41)) (by kernel_rfl) (show IU64 ((a3.Lo).tmod x41) from (tmod_rng (by omega) (by omega))).1 w61) ?_
   refine WR.batch 1 [(8, pt g22 0), (12, .int .u64 ((a3.Lo).tmod x41)), (33, .int .u64 (sShr .u64 a2.Lo ((a3.Lo).tmod x41))), (34, pt g2 1)] (by kernel_rfl) ?_
   refine WR.load (dst := some 35) (t := 23) (o := 1) hb68 (by kernel_rfl) (.int .u64 a2.Hi) (by kernel_rfl) ?_
   refine WR.batch 1 [(8, pt g22 0), (33, .int .u64 (sShr .u64 a2.Lo ((a3.Lo).tmod x41))), (35, .int .u64 a2.Hi), (36, .int .u64 ((a3.Lo).tmod x41))] (by kernel_rfl) ?_
   refine WR.valR (dst := some 37) (v := .int .u64 (sShr .u64 a2.Hi ((a3.Lo).tmod x41))) (w' := w61) (run_shr (kk := .u64) (k' := .u64) (x := a2.Hi) (y := ((a3.Lo).tmod x41)) (by kernel_rfl) (show IU64 ((a3.Lo).tmod x41) from (tmod_rng (by omega) (by omega))).1 w61) ?_
   refine WR.batch 1 [(8, pt g22 0), (38, .agg #[.int .u64 (sShr .u64 a2.Lo ((a3.Lo).tmod x41)), .int .u64 (sShr .u64 a2.Hi ((a3.Lo).tmod x41))])] (by kernel_rfl) ?_
   have hb72 := ((hb25.pure hc38).pure hc46).pure hc62
   refine WR.store (t := 25) (o := 0) (v := .agg #[.int .u64 (sShr .u64 a2.Lo ((a3.Lo).tmod x41)), .int .u64 (sShr .u64 a2.Hi ((a3.Lo).tmod x41))]) hb72 (by kernel_rfl) #[.int .u64 (sShr .u64 a2.Lo ((a3.Lo).tmod x41)), .int .u64 (sShr .u64 a2.Hi ((a3.Lo).tmod x41))] (by kernel_rfl) ?_
   intro w69 hb70 hc71
   have hz74 := hc71.size
   have hC73 := hC63.step1 hc71 (by omega)
   refine WR.batch 1 [(8, pt g22 0), (9, .bool true)] (by kernel_rfl) ?_
   refine WR.fin (by kernel_rfl) ?_
   refine go hK67 ?_
   refine CW.ret ?_
   exact retC [.agg #[.int .u64 (sShr .u64 a2.Lo ((a3.Lo).tmod x41)), .int .u64 (sShr .u64 a2.Hi ((a3.Lo).tmod x41))], .bool true] _ rfl ⟨resCell hb70 rfl (by kernel_rfl), rfl, trivial⟩ (⟨hC73, (congrArg (fun r : (TSpan × Bool) => (.tuple #[TSpan.v r.1, .bool r.2] : Value)) hs66).symm⟩)
  have hs75 := ifF ht65 hs60
  refine CW.seq fun K76 hK76 => ?_
  refine CW.region ?_
  refine WR.batch 1 [(6, pt g2 0), (7, pt g12 0), (8, pt g22 0), (11, .int .u64 x41), (40, pt g12 1)] (by kernel_rfl) ?_
  have hb77 := hb50.pure hc62
  refine WR.load (dst := some 41) (t := 23) (o := 1) hb77 (by kernel_rfl) (.int .u64 a3.Hi) (by kernel_rfl) ?_
  refine WR.batch 3 [(6, pt g2 0), (7, pt g12 0), (8, pt g22 0), (39, .bool (decide (a3.Hi < x41)))] (by kernel_rfl) ?_
  refine WR.fin (by kernel_rfl) ?_
  refine go hK76 ?_
  refine CW.cond (decide (a3.Hi < x41)) (by kernel_rfl) (fun ht78 => ?_) (fun ht78 => ?_)
  ·
   have hs79 := ifT ht78 hs75
   replace ht78 : a3.Hi < x41 := (of_decide_eq_true ht78)
   refine CW.seq fun K80 hK80 => ?_
   refine CW.region ?_
   refine WR.batch 1 [(6, pt g2 0), (7, pt g12 0), (8, pt g22 0), (44, pt g2 0)] (by kernel_rfl) ?_
   have hb81 := ((((hb5.pure hc17).pure hc27).pure hc38).pure hc46).pure hc62
   refine WR.load (dst := some 45) (t := 23) (o := 0) hb81 (by kernel_rfl) (.int .u64 a2.Lo) (by kernel_rfl) ?_
   refine WR.batch 1 [(6, pt g2 0), (7, pt g12 0), (8, pt g22 0), (45, .int .u64 a2.Lo), (46, pt g12 1)] (by kernel_rfl) ?_
   refine WR.load (dst := some 47) (t := 23) (o := 1) hb77 (by kernel_rfl) (.int .u64 a3.Hi) (by kernel_rfl) ?_
   refine WR.valR (dst := some 48) (v := .int .u64 (sShr .u64 a2.Lo a3.Hi)) (w' := w61) (run_shr (kk := .u64) (k' := .u64) (x := a2.Lo) (y := a3.Hi) (by kernel_rfl) (by omega) w61) ?_
   refine WR.batch 1 [(7, pt g12 0), (8, pt g22 0), (48, .int .u64 (sShr .u64 a2.Lo a3.Hi)), (49, pt g2 1)] (by kernel_rfl) ?_
   refine WR.load (dst := some 50) (t := 23) (o := 1) hb81 (by kernel_rfl) (.int .u64 a2.Hi) (by kernel_rfl) ?_
   refine WR.batch 1 [(8, pt g22 0), (48, .int .u64 (sShr .u64 a2.Lo a3.Hi)), (50, .int .u64 a2.Hi), (51, pt g12 0)] (by kernel_rfl) ?_
   refine WR.load (dst := some 52) (t := 23) (o := 0) hb77 (by kernel_rfl) (.int .u64 a3.Lo) (by kernel_rfl) ?_
   refine WR.valR (dst := some 53) (v := .int .u64 (sShr .u64 a2.Hi a3.Lo)) (w' := w61) (run_shr (kk := .u64) (k' := .u64) (x := a2.Hi) (y := a3.Lo) (by kernel_rfl) (by omega) w61) ?_
   refine WR.batch 1 [(8, pt g22 0), (54, .agg #[.int .u64 (sShr .u64 a2.Lo a3.Hi), .int .u64 (sShr .u64 a2.Hi a3.Lo)])] (by kernel_rfl) ?_
   have hb85 := ((hb25.pure hc38).pure hc46).pure hc62
   refine WR.store (t := 25) (o := 0) (v := .agg #[.int .u64 (sShr .u64 a2.Lo a3.Hi), .int .u64 (sShr .u64 a2.Hi a3.Lo)]) hb85 (by kernel_rfl) #[.int .u64 (sShr .u64 a2.Lo a3.Hi), .int .u64 (sShr .u64 a2.Hi a3.Lo)] (by kernel_rfl) ?_
   intro w82 hb83 hc84
   have hz87 := hc84.size
   have hC86 := hC63.step1 hc84 (by omega)
   refine WR.batch 1 [(8, pt g22 0), (9, .bool true)] (by kernel_rfl) ?_
   refine WR.fin (by kernel_rfl) ?_
   refine go hK80 ?_
   refine CW.ret ?_
   exact retC [.agg #[.int .u64 (sShr .u64 a2.Lo a3.Hi), .int .u64 (sShr .u64 a2.Hi a3.Lo)], .bool true] _ rfl ⟨resCell hb83 rfl (by kernel_rfl), rfl, trivial⟩ (⟨hC86, (congrArg (fun r : (TSpan × Bool) => (.tuple #[TSpan.v r.1, .bool r.2] : Value)) hs79).symm⟩)
  have hs88 := ifF ht78 hs75
  replace ht78 : ¬ (a3.Hi < x41) := (of_decide_eq_false ht78)
  refine CW.skip ?_
  refine go hK56 ?_
  refine CW.seq fun K89 hK89 => ?_
  refine CW.region ?_
  refine WR.batch 1 [(8, pt g22 0), (55, pt g2 1)] (by kernel_rfl) ?_
  have hb90 := ((((hb5.pure hc17).pure hc27).pure hc38).pure hc46).pure hc62
  refine WR.load (dst := some 56) (t := 23) (o := 1) hb90 (by kernel_rfl) (.int .u64 a2.Hi) (by kernel_rfl) ?_
  refine WR.batch 1 [(8, pt g22 0), (57, .agg #[.int .u64 0, .int .u64 a2.Hi])] (by kernel_rfl) ?_
  have hb94 := ((hb25.pure hc38).pure hc46).pure hc62
  refine WR.store (t := 25) (o := 0) (v := .agg #[.int .u64 0, .int .u64 a2.Hi]) hb94 (by kernel_rfl) #[.int .u64 0, .int .u64 a2.Hi] (by kernel_rfl) ?_
  intro w91 hb92 hc93
  have hz96 := hc93.size
  have hC95 := hC63.step1 hc93 (by omega)
  refine WR.batch 1 [(8, pt g22 0), (9, .bool true)] (by kernel_rfl) ?_
  refine WR.fin (by kernel_rfl) ?_
  refine go hK89 ?_
  refine CW.ret ?_
  exact retC [.agg #[.int .u64 0, .int .u64 a2.Hi], .bool true] _ rfl ⟨resCell hb92 rfl (by kernel_rfl), rfl, trivial⟩ (⟨hC95, (congrArg (fun r : (TSpan × Bool) => (.tuple #[TSpan.v r.1, .bool r.2] : Value)) hs88).symm⟩)
 have hs97 := ifF ht54 hs44
 replace ht54 : a0 ≠ (10 : Int) := (bEqF ht54)
 refine CW.skip ?_
 refine go hK52 ?_
 refine CW.seq fun K98 hK98 => ?_
 refine CW.seq fun K99 hK99 => ?_
 refine CW.region ?_
 refine WR.load (dst := some 58) (t := 25) (o := 0) hb50 (by kernel_rfl) (.agg #[.int .u64 a3.Lo, .int .u64 a3.Hi]) (by kernel_rfl) ?_
 obtain ⟨x100, hx101⟩ : ∃ x, ref11_single a3 = x := ⟨_, rfl⟩
 have hs102 := letS hx101 hs97
 refine WR.call (dst := some 59) (by kernel_rfl) (retE (g := (fun r : Bool => (.bool r : Value))) hx101 (ref11_single_any a3 w45  ⟨(by omega), (by omega)⟩ )) ?_
 rintro _ w103 hc104 rfl
 have hz106 := hc104.size
 have hC105 := hC47.pure hc104
 refine WR.batch 1 [(0, .int .u8 a0), (1, .bool a1), (6, pt g2 0), (8, pt g22 0), (10, .int .u64 x33), (12, .int .u64 ((a3.Lo).tmod x41)), (60, .bool (!x100))] (by kernel_rfl) ?_
 refine WR.fin (by kernel_rfl) ?_
 refine go hK99 ?_
 refine CW.cond ((!x100)) (by kernel_rfl) (fun ht107 => ?_) (fun ht107 => ?_)
 ·
  have hs108 := ifT ht107 hs102
  replace ht107 : x100 = false := (bNotT ht107)
  refine CW.seq fun K109 hK109 => ?_
  refine CW.region ?_
  refine WR.batch 1 [(8, pt g22 0), (61, .agg #[.int .u64 0, .int .u64 0])] (by kernel_rfl) ?_
  have hb113 := ((hb25.pure hc38).pure hc46).pure hc104
  refine WR.store (t := 25) (o := 0) (v := .agg #[.int .u64 0, .int .u64 0]) hb113 (by kernel_rfl) #[.int .u64 0, .int .u64 0] (by kernel_rfl) ?_
  intro w110 hb111 hc112
  have hz115 := hc112.size
  have hC114 := hC105.step1 hc112 (by omega)
  refine WR.batch 1 [(8, pt g22 0), (9, .bool false)] (by kernel_rfl) ?_
  refine WR.fin (by kernel_rfl) ?_
  refine go hK109 ?_
  refine CW.ret ?_
  exact retC [.agg #[.int .u64 0, .int .u64 0], .bool false] _ rfl ⟨resCell hb111 rfl (by kernel_rfl), rfl, trivial⟩ (⟨hC114, (congrArg (fun r : (TSpan × Bool) => (.tuple #[TSpan.v r.1, .bool r.2] : Value)) hs108).symm⟩)
 have hs116 := ifF ht107 hs102
 replace ht107 : x100 = true := (bNotF ht107)
 refine CW.skip ?_
 refine go hK98 ?_
 refine CW.seq fun K117 hK117 => ?_
 refine CW.seq fun K118 hK118 => ?_
 refine CW.region ?_
 refine WR.batch 2 [(1, .bool a1), (6, pt g2 0), (8, pt g22 0), (10, .int .u64 x33), (12, .int .u64 ((a3.Lo).tmod x41)), (63, .bool (a0 == (9 : Int)))] (by kernel_rfl) ?_
 refine WR.fin (by kernel_rfl) ?_
 refine go hK118 ?_
 refine CW.cond ((a0 == (9 : Int))) (by kernel_rfl) (fun ht119 => ?_) (fun ht119 => ?_)
 ·
  have hs120 := ifT ht119 hs116
  replace ht119 : a0 = (9 : Int) := (bEqT ht119)
  refine CW.seq fun K121 hK121 => ?_
  refine CW.keep [6, 8, 10, 12] (F' := [(6, pt g2 0), (8, pt g22 0), (10, .int .u64 x33), (12, .int .u64 ((a3.Lo).tmod x41))]) (by kernel_rfl) ?_
  have hb122 := ((hb25.pure hc38).pure hc46).pure hc104
  refine CW.regionG 20 [some (pt g2 0), some (.int .u64 a2.Lo), some (.int .u64 ((a3.Lo).tmod x41)), some (.int .u64 (sShl .u64 a2.Lo ((a3.Lo).tmod x41))), some (.int .u64 x33), some (.int .u64 (bAnd .u64 (sShl .u64 a2.Lo ((a3.Lo).tmod x41)) x33)), some (pt g2 1), some (.int .u64 a2.Hi), some (.int .u64 ((a3.Lo).tmod x41)), some (.int .u64 (sShl .u64 a2.Hi ((a3.Lo).tmod x41))), some (.int .u64 x33), some (.int .u64 (bAnd .u64 (sShl .u64 a2.Hi ((a3.Lo).tmod x41)) x33)), some (.agg #[.int .u64 (bAnd .u64 (sShl .u64 a2.Lo ((a3.Lo).tmod x41)) x33), .int .u64 (bAnd .u64 (sShl .u64 a2.Hi ((a3.Lo).tmod x41)) x33)]), some (pt g2 1), some (.int .u64 a2.Hi), some (.int .u64 x33), some (.int .u64 ((a3.Lo).tmod x41)), some (.int .u64 (sShr .u64 x33 ((a3.Lo).tmod x41))), some (.bool (decide (a2.Hi ≤ (sShr .u64 x33 ((a3.Lo).tmod x41))))), none] (fun u => [(64, pt g2 0), (65, .int .u64 a2.Lo), (66, .int .u64 ((a3.Lo).tmod x41)), (67, .int .u64 (sShl .u64 a2.Lo ((a3.Lo).tmod x41))), (68, .int .u64 x33), (69, .int .u64 (bAnd .u64 (sShl .u64 a2.Lo ((a3.Lo).tmod x41)) x33)), (70, pt g2 1), (71, .int .u64 a2.Hi), (72, .int .u64 ((a3.Lo).tmod x41)), (73, .int .u64 (sShl .u64 a2.Hi ((a3.Lo).tmod x41))), (74, .int .u64 x33), (75, .int .u64 (bAnd .u64 (sShl .u64 a2.Hi ((a3.Lo).tmod x41)) x33)), (76, .agg #[.int .u64 (bAnd .u64 (sShl .u64 a2.Lo ((a3.Lo).tmod x41)) x33), .int .u64 (bAnd .u64 (sShl .u64 a2.Hi ((a3.Lo).tmod x41)) x33)]), (77, pt g2 1), (78, .int .u64 a2.Hi), (79, .int .u64 x33), (80, .int .u64 ((a3.Lo).tmod x41)), (81, .int .u64 (sShr .u64 x33 ((a3.Lo).tmod x41))), (82, .bool (decide (a2.Hi ≤ (sShr .u64 x33 ((a3.Lo).tmod x41))))), (6, pt g2 0), (8, pt g22 0), (10, .int .u64 x33), (12, .int .u64 ((a3.Lo).tmod x41))]) (fun _ => by kernel_rfl) (by kernel_rfl) [(19, g22)] (fun i w' => match i with | 0 => True | 1 => True | 2 => True | 3 => True | 4 => True | 5 => True | 6 => True | 7 => True | 8 => True | 9 => True | 10 => True | 11 => True | 12 => True | 13 => True | 14 => True | 15 => True | 16 => True | 17 => True | 18 => True | 19 => Blk w' g22 #[.int .u64 0, .int .u64 0] 25 | _ => True) (fun j => match j with | 0 => trivial | 1 => trivial | 2 => trivial | 3 => trivial | 4 => trivial | 5 => trivial | 6 => trivial | 7 => trivial | 8 => trivial | 9 => trivial | 10 => trivial | 11 => trivial | 12 => trivial | 13 => trivial | 14 => trivial | 15 => trivial | 16 => trivial | 17 => trivial | 18 => trivial | 19 => hb122.pure (Chg.drew w103) | j + 20 => trivial) ?_ [] [] (by kernel_rfl) (fun w' => Chg [g22] w103 w') (fun i v w' => match i with | 0 => True | 1 => True | 2 => True | 3 => True | 4 => True | 5 => True | 6 => True | 7 => True | 8 => True | 9 => True | 10 => True | 11 => True | 12 => True | 13 => True | 14 => True | 15 => True | 16 => True | 17 => True | 18 => True | 19 => Blk w' g22 #[.int .u64 (bAnd .u64 (sShl .u64 a2.Lo ((a3.Lo).tmod x41)) x33), .int .u64 (bAnd .u64 (sShl .u64 a2.Hi ((a3.Lo).tmod x41)) x33)] 25 | _ => True) (fun j x w hj h => absurd hj (by simp)) (by kernel_rfl) (by kernel_rfl) (by kernel_rfl) (by kernel_rfl) ((Chg.drew w103).weak (by simp)) (fun _ _ _ h h' => h.step h' (fun t ht => .inl (cL_sub t ht))) ?_ (obsG_batch 1 0 19 (fun _ _ => by kernel_rfl) (by kernel_rfl) ⟨?_, (obsG_batch 1 2 17 (fun _ _ => by kernel_rfl) (by kernel_rfl) ⟨?_, (obsG_batch 3 4 13 (fun _ _ => by kernel_rfl) (by kernel_rfl) ⟨?_, (obsG_batch 1 8 11 (fun _ _ => by kernel_rfl) (by kernel_rfl) ⟨?_, (obsG_batch 4 10 6 (fun _ _ => by kernel_rfl) (by kernel_rfl) ⟨?_, (obsG_batch 2 15 3 (fun _ _ => by kernel_rfl) (by kernel_rfl) ⟨?_, (obsG_batch 1 18 1 (fun _ _ => by kernel_rfl) (by kernel_rfl) ⟨?_, trivial⟩)⟩)⟩)⟩)⟩)⟩)⟩) ?_
  ·
   intro i j w1 w2 hij h hc
   match j, hij, h with
   | 0, hij, h => exact trivial
   | 1, hij, h => exact trivial
   | 2, hij, h => exact trivial
   | 3, hij, h => exact trivial
   | 4, hij, h => exact trivial
   | 5, hij, h => exact trivial
   | 6, hij, h => exact trivial
   | 7, hij, h => exact trivial
   | 8, hij, h => exact trivial
   | 9, hij, h => exact trivial
   | 10, hij, h => exact trivial
   | 11, hij, h => exact trivial
   | 12, hij, h => exact trivial
   | 13, hij, h => exact trivial
   | 14, hij, h => exact trivial
   | 15, hij, h => exact trivial
   | 16, hij, h => exact trivial
   | 17, hij, h => exact trivial
   | 18, hij, h => exact trivial
   | 19, hij, h => exact h.chg hc (cL_not (by intro p hp e; simp only [List.mem_cons, List.not_mem_nil, or_false] at hp; rcases hp with rfl <;> (simp only at e ⊢; omega)))
   | n + 20, _, _ => trivial
  ·
   intro i j v w1 w2 hij h hc
   match j, hij, h with
   | 0, _, _ => trivial
   | 1, _, _ => trivial
   | 2, _, _ => trivial
   | 3, _, _ => trivial
   | 4, _, _ => trivial
   | 5, _, _ => trivial
   | 6, _, _ => trivial
   | 7, _, _ => trivial
   | 8, _, _ => trivial
   | 9, _, _ => trivial
   | 10, _, _ => trivial
   | 11, _, _ => trivial
   | 12, _, _ => trivial
   | 13, _, _ => trivial
   | 14, _, _ => trivial
   | 15, _, _ => trivial
   | 16, _, _ => trivial
   | 17, _, _ => trivial
   | 18, _, _ => trivial
   | 19, hij, h => exact h.chg hc (cL_not (by intro p hp e; simp only [List.mem_cons, List.not_mem_nil, or_false] at hp; rcases hp with rfl <;> (simp only at e ⊢; omega)))
   | n + 20, _, _ => trivial
  ·
   intro u123 w124 hW125 hPr128 hp126 hal127
   have hz130 := hW125.size
   have hC129 := hC105.step1 hW125 (by omega)
   have hb131 : Blk w124 g22 #[.int .u64 0, .int .u64 0] 25 := hPr128 19 (.inr (.one (by kernel_rfl)))
   have hb132 := (((((hb5.pure hc17).pure hc27).pure hc38).pure hc46).pure hc104).chg1 hW125 (by omega)
   refine WR.load (dst := some 65) (t := 23) (o := 0) hb132 (by kernel_rfl) (.int .u64 a2.Lo) (by kernel_rfl) ?_
   refine WR.fin (by kernel_rfl) ?_
   exact fun _ ha => ⟨Chg.refl _ _, _, ha, ⟨⟨fun h => absurd h (by decide), alNone (by decide)⟩, rfl⟩⟩
  ·
   intro u133 w134 hW135 hPr138 hp136 hal137
   have hz140 := hW135.size
   have hC139 := hC105.step1 hW135 (by omega)
   have hb141 : Blk w134 g22 #[.int .u64 0, .int .u64 0] 25 := hPr138 19 (.inr (.one (by kernel_rfl)))
   refine WR.valR (dst := some 67) (v := .int .u64 (sShl .u64 a2.Lo ((a3.Lo).tmod x41))) (w' := w134) (run_shl (kk := .u64) (k' := .u64) (x := a2.Lo) (y := ((a3.Lo).tmod x41)) (by kernel_rfl) (show IU64 ((a3.Lo).tmod x41) from (tmod_rng (by omega) (by omega))).1 w134) ?_
   refine WR.fin (by kernel_rfl) ?_
   exact fun _ ha => ⟨Chg.refl _ _, _, ha, ⟨⟨fun h => absurd h (by decide), alNone (by decide)⟩, rfl⟩⟩
  ·
   intro u142 w143 hW144 hPr147 hp145 hal146
   have hz149 := hW144.size
   have hC148 := hC105.step1 hW144 (by omega)
   have hb150 : Blk w143 g22 #[.int .u64 0, .int .u64 0] 25 := hPr147 19 (.inr (.one (by kernel_rfl)))
   have hb151 := (((((hb5.pure hc17).pure hc27).pure hc38).pure hc46).pure hc104).chg1 hW144 (by omega)
   refine WR.load (dst := some 71) (t := 23) (o := 1) hb151 (by kernel_rfl) (.int .u64 a2.Hi) (by kernel_rfl) ?_
   refine WR.fin (by kernel_rfl) ?_
   exact fun _ ha => ⟨Chg.refl _ _, _, ha, ⟨⟨fun h => absurd h (by decide), alNone (by decide)⟩, rfl⟩⟩
  ·
   intro u152 w153 hW154 hPr157 hp155 hal156
   have hz159 := hW154.size
   have hC158 := hC105.step1 hW154 (by omega)
   have hb160 : Blk w153 g22 #[.int .u64 0, .int .u64 0] 25 := hPr157 19 (.inr (.one (by kernel_rfl)))
   refine WR.valR (dst := some 73) (v := .int .u64 (sShl .u64 a2.Hi ((a3.Lo).tmod x41))) (w' := w153) (run_shl (kk := .u64) (k' := .u64) (x := a2.Hi) (y := ((a3.Lo).tmod x41)) (by kernel_rfl) (show IU64 ((a3.Lo).tmod x41) from (tmod_rng (by omega) (by omega))).1 w153) ?_
   refine WR.fin (by kernel_rfl) ?_
   exact fun _ ha => ⟨Chg.refl _ _, _, ha, ⟨⟨fun h => absurd h (by decide), alNone (by decide)⟩, rfl⟩⟩
  ·
   intro u161 w162 hW163 _ hp164 hal165
   have hz168 := hW163.size
   have hC167 := hC105.step1 hW163 (by omega)
   have hb169 := (((((hb5.pure hc17).pure hc27).pure hc38).pure hc46).pure hc104).chg1 hW163 (by omega)
   refine WR.load (dst := some 78) (t := 23) (o := 1) hb169 (by kernel_rfl) (.int .u64 a2.Hi) (by kernel_rfl) ?_
   refine WR.fin (by kernel_rfl) ?_
   exact fun _ ha => ⟨Chg.refl _ _, _, ha, ⟨⟨fun h => absurd h (by decide), alNone (by decide)⟩, rfl⟩⟩
  ·
   intro u170 w171 hW172 _ hp173 hal174
   have hz177 := hW172.size
   have hC176 := hC105.step1 hW172 (by omega)
   refine WR.valR (dst := some 81) (v := .int .u64 (sShr .u64 x33 ((a3.Lo).tmod x41))) (w' := w171) (run_shr (kk := .u64) (k' := .u64) (x := x33) (y := ((a3.Lo).tmod x41)) (by kernel_rfl) (show IU64 ((a3.Lo).tmod x41) from (tmod_rng (by omega) (by omega))).1 w171) ?_
   refine WR.fin (by kernel_rfl) ?_
   exact fun _ ha => ⟨Chg.refl _ _, _, ha, ⟨⟨fun h => absurd h (by decide), alNone (by decide)⟩, rfl⟩⟩
  ·
   intro u178 w179 hW180 hPr183 hp181 hal182
   have hz185 := hW180.size
   have hC184 := hC105.step1 hW180 (by omega)
   have hb186 : Blk w179 g22 #[.int .u64 0, .int .u64 0] 25 := hPr183 19 (.inl rfl)
   refine WR.store (t := 25) (o := 0) (v := .agg #[.int .u64 (bAnd .u64 (sShl .u64 a2.Lo ((a3.Lo).tmod x41)) x33), .int .u64 (bAnd .u64 (sShl .u64 a2.Hi ((a3.Lo).tmod x41)) x33)]) hb186 (by kernel_rfl) #[.int .u64 (bAnd .u64 (sShl .u64 a2.Lo ((a3.Lo).tmod x41)) x33), .int .u64 (bAnd .u64 (sShl .u64 a2.Hi ((a3.Lo).tmod x41)) x33)] (by kernel_rfl) ?_
   intro w187 hb188 hc189
   have hz191 := hc189.size
   have hC190 := hC184.step1 hc189 (by omega)
   refine WR.fin (by kernel_rfl) ?_
   exact fun _ ha => ⟨hc189, undef, ha, ⟨⟨fun h => absurd h (by decide), alNone (by decide)⟩, hb188⟩⟩
  intro u192 w193 hW194 hr195 _ _
  have hz199 := hW194.size
  have hC198 := hC105.step1 hW194 (by omega)
  have hp200 : Blk w193 g22 #[.int .u64 (bAnd .u64 (sShl .u64 a2.Lo ((a3.Lo).tmod x41)) x33), .int .u64 (bAnd .u64 (sShl .u64 a2.Hi ((a3.Lo).tmod x41)) x33)] 25 := hr195 19 (by omega) (by kernel_rfl)
  refine WR.keep [8, 82] (F' := [(8, pt g22 0), (82, .bool (decide (a2.Hi ≤ (sShr .u64 x33 ((a3.Lo).tmod x41)))))]) (by kernel_rfl) ?_
  refine WR.batch 1 [(8, pt g22 0), (9, .bool (decide (a2.Hi ≤ (sShr .u64 x33 ((a3.Lo).tmod x41)))))] (by kernel_rfl) ?_
  refine WR.fin (by kernel_rfl) ?_
  refine go hK121 ?_
  refine CW.ret ?_
  exact retC [.agg #[.int .u64 (bAnd .u64 (sShl .u64 a2.Lo ((a3.Lo).tmod x41)) x33), .int .u64 (bAnd .u64 (sShl .u64 a2.Hi ((a3.Lo).tmod x41)) x33)], .bool (decide (a2.Hi ≤ (sShr .u64 x33 ((a3.Lo).tmod x41))))] _ rfl ⟨resCell hp200 rfl (by kernel_rfl), rfl, trivial⟩ (⟨hC198, (congrArg (fun r : (TSpan × Bool) => (.tuple #[TSpan.v r.1, .bool r.2] : Value)) hs120).symm⟩)
 have hs201 := ifF ht119 hs116
 replace ht119 : a0 ≠ (9 : Int) := (bEqF ht119)
 refine CW.skip ?_
 refine go hK117 ?_
 refine CW.seq fun K202 hK202 => ?_
 refine CW.region ?_
 refine WR.batch 2 [(1, .bool a1), (6, pt g2 0), (8, pt g22 0), (12, .int .u64 ((a3.Lo).tmod x41)), (84, .bool a1), (85, pt g2 0)] (by kernel_rfl) ?_
 have hb203 := ((((hb5.pure hc17).pure hc27).pure hc38).pure hc46).pure hc104
 refine WR.load (dst := some 86) (t := 23) (o := 0) hb203 (by kernel_rfl) (.int .u64 a2.Lo) (by kernel_rfl) ?_
 refine WR.batch 1 [(1, .bool a1), (6, pt g2 0), (8, pt g22 0), (12, .int .u64 ((a3.Lo).tmod x41)), (84, .bool a1), (86, .int .u64 a2.Lo), (87, .int .u64 ((a3.Lo).tmod x41))] (by kernel_rfl) ?_
 obtain ⟨x204, hx205⟩ : ∃ x, ref01_Do_11 a1 a2.Lo ((a3.Lo).tmod x41) = x := ⟨_, rfl⟩
 have hs207 := letS hx205 hs201
 have hx206 : IU64 x204.1 ∧ II64 x204.2 := by rw [← hx205]; exact ref01_Do_11_ok a1 a2.Lo ((a3.Lo).tmod x41) (by omega) (tmod_rng (by omega) (by omega)) 
 refine WR.call (dst := some 88) (by kernel_rfl) (retE (g := (fun r : (Int × Int) => (.tuple #[.int .u64 r.1, .int .i64 r.2] : Value))) hx205 (ref01_Do_11_any a1 a2.Lo ((a3.Lo).tmod x41) w103  (by omega) (tmod_rng (by omega) (by omega)) )) ?_
 rintro _ w208 hc209 rfl
 have hz211 := hc209.size
 have hC210 := hC105.pure hc209
 refine WR.batch 5 [(1, .bool a1), (6, pt g2 0), (8, pt g22 0), (12, .int .u64 ((a3.Lo).tmod x41)), (13, .int .u64 x204.1)] (by kernel_rfl) ?_
 refine WR.fin (by kernel_rfl) ?_
 refine go hK202 ?_
 refine CW.seq fun K212 hK212 => ?_
 refine CW.region ?_
 refine WR.batch 2 [(1, .bool a1), (6, pt g2 0), (8, pt g22 0), (12, .int .u64 ((a3.Lo).tmod x41)), (13, .int .u64 x204.1), (92, .bool a1), (93, pt g2 1)] (by kernel_rfl) ?_
 have hb213 := hb203.pure hc209
 refine WR.load (dst := some 94) (t := 23) (o := 1) hb213 (by kernel_rfl) (.int .u64 a2.Hi) (by kernel_rfl) ?_
 refine WR.batch 1 [(1, .bool a1), (6, pt g2 0), (8, pt g22 0), (13, .int .u64 x204.1), (92, .bool a1), (94, .int .u64 a2.Hi), (95, .int .u64 ((a3.Lo).tmod x41))] (by kernel_rfl) ?_
 obtain ⟨x214, hx215⟩ : ∃ x, ref01_Do_11 a1 a2.Hi ((a3.Lo).tmod x41) = x := ⟨_, rfl⟩
 have hs217 := letS hx215 hs207
 have hx216 : IU64 x214.1 ∧ II64 x214.2 := by rw [← hx215]; exact ref01_Do_11_ok a1 a2.Hi ((a3.Lo).tmod x41) (by omega) (tmod_rng (by omega) (by omega)) 
 refine WR.call (dst := some 96) (by kernel_rfl) (retE (g := (fun r : (Int × Int) => (.tuple #[.int .u64 r.1, .int .i64 r.2] : Value))) hx215 (ref01_Do_11_any a1 a2.Hi ((a3.Lo).tmod x41) w208  (by omega) (tmod_rng (by omega) (by omega)) )) ?_
 rintro _ w218 hc219 rfl
 have hz221 := hc219.size
 have hC220 := hC210.pure hc219
 refine WR.batch 5 [(1, .bool a1), (6, pt g2 0), (8, pt g22 0), (13, .int .u64 x204.1), (15, .int .u64 x214.1)] (by kernel_rfl) ?_
 refine WR.fin (by kernel_rfl) ?_
 refine go hK212 ?_
 refine CW.seq fun K222 hK222 => ?_
 refine CW.keep [1, 6, 8, 13, 15] (F' := [(1, .bool a1), (6, pt g2 0), (8, pt g22 0), (13, .int .u64 x204.1), (15, .int .u64 x214.1)]) (by kernel_rfl) ?_
 have hb223 := ((((hb25.pure hc38).pure hc46).pure hc104).pure hc209).pure hc219
 refine CW.regionG 13 [some (.int .u64 x204.1), some (.int .u64 x214.1), some (.agg #[.int .u64 x204.1, .int .u64 x214.1]), some (pt g2 0), some (.int .u64 a2.Lo), some (.bool a1), some (.bool (ref11_below a2.Lo a1)), some (pt g2 1), some (.int .u64 a2.Hi), some (.bool a1), some (.bool (ref11_below a2.Hi a1)), some (.bool ((ref11_below a2.Lo a1) == (ref11_below a2.Hi a1))), none] (fun u => [(99, .int .u64 x204.1), (100, .int .u64 x214.1), (101, .agg #[.int .u64 x204.1, .int .u64 x214.1]), (102, pt g2 0), (103, .int .u64 a2.Lo), (104, .bool a1), (105, .bool (ref11_below a2.Lo a1)), (106, pt g2 1), (107, .int .u64 a2.Hi), (108, .bool a1), (109, .bool (ref11_below a2.Hi a1)), (110, .bool ((ref11_below a2.Lo a1) == (ref11_below a2.Hi a1))), (1, .bool a1), (6, pt g2 0), (8, pt g22 0), (13, .int .u64 x204.1), (15, .int .u64 x214.1)]) (fun _ => by kernel_rfl) (by kernel_rfl) [(12, g22)] (fun i w' => match i with | 0 => True | 1 => True | 2 => True | 3 => True | 4 => True | 5 => True | 6 => True | 7 => True | 8 => True | 9 => True | 10 => True | 11 => True | 12 => Blk w' g22 #[.int .u64 0, .int .u64 0] 25 | _ => True) (fun j => match j with | 0 => trivial | 1 => trivial | 2 => trivial | 3 => trivial | 4 => trivial | 5 => trivial | 6 => trivial | 7 => trivial | 8 => trivial | 9 => trivial | 10 => trivial | 11 => trivial | 12 => hb223.pure (Chg.drew w218) | j + 13 => trivial) ?_ [] [] (by kernel_rfl) (fun w' => Chg [g22] w218 w') (fun i v w' => match i with | 0 => True | 1 => True | 2 => True | 3 => True | 4 => True | 5 => True | 6 => True | 7 => True | 8 => True | 9 => True | 10 => True | 11 => True | 12 => Blk w' g22 #[.int .u64 x204.1, .int .u64 x214.1] 25 | _ => True) (fun j x w hj h => absurd hj (by simp)) (by kernel_rfl) (by kernel_rfl) (by kernel_rfl) (by kernel_rfl) ((Chg.drew w218).weak (by simp)) (fun _ _ _ h h' => h.step h' (fun t ht => .inl (cL_sub t ht))) ?_ (obsG_batch 4 0 9 (fun _ _ => by kernel_rfl) (by kernel_rfl) ⟨?_, (obsG_batch 1 5 7 (fun _ _ => by kernel_rfl) (by kernel_rfl) ⟨?_, (obsG_batch 1 7 5 (fun _ _ => by kernel_rfl) (by kernel_rfl) ⟨?_, (obsG_batch 1 9 3 (fun _ _ => by kernel_rfl) (by kernel_rfl) ⟨?_, (obsG_batch 1 11 1 (fun _ _ => by kernel_rfl) (by kernel_rfl) ⟨?_, trivial⟩)⟩)⟩)⟩)⟩) ?_
 ·
  intro i j w1 w2 hij h hc
  match j, hij, h with
  | 0, hij, h => exact trivial
  | 1, hij, h => exact trivial
  | 2, hij, h => exact trivial
  | 3, hij, h => exact trivial
  | 4, hij, h => exact trivial
  | 5, hij, h => exact trivial
  | 6, hij, h => exact trivial
  | 7, hij, h => exact trivial
  | 8, hij, h => exact trivial
  | 9, hij, h => exact trivial
  | 10, hij, h => exact trivial
  | 11, hij, h => exact trivial
  | 12, hij, h => exact h.chg hc (cL_not (by intro p hp e; simp only [List.mem_cons, List.not_mem_nil, or_false] at hp; rcases hp with rfl <;> (simp only at e ⊢; omega)))
  | n + 13, _, _ => trivial
 ·
  intro i j v w1 w2 hij h hc
  match j, hij, h with
  | 0, _, _ => trivial
  | 1, _, _ => trivial
  | 2, _, _ => trivial
  | 3, _, _ => trivial
  | 4, _, _ => trivial
  | 5, _, _ => trivial
  | 6, _, _ => trivial
  | 7, _, _ => trivial
  | 8, _, _ => trivial
  | 9, _, _ => trivial
  | 10, _, _ => trivial
  | 11, _, _ => trivial
  | 12, hij, h => exact h.chg hc (cL_not (by intro p hp e; simp only [List.mem_cons, List.not_mem_nil, or_false] at hp; rcases hp with rfl <;> (simp only at e ⊢; omega)))
  | n + 13, _, _ => trivial
 ·
  intro u224 w225 hW226 hPr229 hp227 hal228
  have hz231 := hW226.size
  have hC230 := hC220.step1 hW226 (by omega)
  have hb232 : Blk w225 g22 #[.int .u64 0, .int .u64 0] 25 := hPr229 12 (.inr (.step (k := 10) (by kernel_rfl) (.step (k := 6) (by kernel_rfl) (.one (by kernel_rfl)))))
  have hb233 := (hb213.pure hc219).chg1 hW226 (by omega)
  refine WR.load (dst := some 103) (t := 23) (o := 0) hb233 (by kernel_rfl) (.int .u64 a2.Lo) (by kernel_rfl) ?_
  refine WR.fin (by kernel_rfl) ?_
  exact fun _ ha => ⟨Chg.refl _ _, _, ha, ⟨⟨fun h => absurd h (by decide), alNone (by decide)⟩, rfl⟩⟩
 ·
  intro u234 w235 hW236 hPr239 hp237 hal238
  have hz241 := hW236.size
  have hC240 := hC220.step1 hW236 (by omega)
  have hb242 : Blk w235 g22 #[.int .u64 0, .int .u64 0] 25 := hPr239 12 (.inr (.step (k := 10) (by kernel_rfl) (.one (by kernel_rfl))))
  refine WR.call (dst := some 105) (by kernel_rfl) (ref11_below_any a2.Lo a1 w235  (by omega) ) ?_
  rintro _ w243 hc244 rfl
  have hz246 := hc244.size
  have hC245 := hC240.pure hc244
  refine WR.fin (by kernel_rfl) ?_
  exact fun _ ha => ⟨hc244, _, ha, ⟨⟨fun h => absurd h (by decide), alNone (by decide)⟩, rfl⟩⟩
 ·
  intro u247 w248 hW249 hPr252 hp250 hal251
  have hz254 := hW249.size
  have hC253 := hC220.step1 hW249 (by omega)
  have hb255 : Blk w248 g22 #[.int .u64 0, .int .u64 0] 25 := hPr252 12 (.inr (.step (k := 10) (by kernel_rfl) (.one (by kernel_rfl))))
  have hb256 := (hb213.pure hc219).chg1 hW249 (by omega)
  refine WR.load (dst := some 107) (t := 23) (o := 1) hb256 (by kernel_rfl) (.int .u64 a2.Hi) (by kernel_rfl) ?_
  refine WR.fin (by kernel_rfl) ?_
  exact fun _ ha => ⟨Chg.refl _ _, _, ha, ⟨⟨fun h => absurd h (by decide), alNone (by decide)⟩, rfl⟩⟩
 ·
  intro u257 w258 hW259 hPr262 hp260 hal261
  have hz264 := hW259.size
  have hC263 := hC220.step1 hW259 (by omega)
  have hb265 : Blk w258 g22 #[.int .u64 0, .int .u64 0] 25 := hPr262 12 (.inr (.one (by kernel_rfl)))
  refine WR.call (dst := some 109) (by kernel_rfl) (ref11_below_any a2.Hi a1 w258  (by omega) ) ?_
  rintro _ w266 hc267 rfl
  have hz269 := hc267.size
  have hC268 := hC263.pure hc267
  refine WR.fin (by kernel_rfl) ?_
  exact fun _ ha => ⟨hc267, _, ha, ⟨⟨fun h => absurd h (by decide), alNone (by decide)⟩, rfl⟩⟩
 ·
  intro u270 w271 hW272 hPr275 hp273 hal274
  have hz277 := hW272.size
  have hC276 := hC220.step1 hW272 (by omega)
  have hb278 : Blk w271 g22 #[.int .u64 0, .int .u64 0] 25 := hPr275 12 (.inl rfl)
  refine WR.store (t := 25) (o := 0) (v := .agg #[.int .u64 x204.1, .int .u64 x214.1]) hb278 (by kernel_rfl) #[.int .u64 x204.1, .int .u64 x214.1] (by kernel_rfl) ?_
  intro w279 hb280 hc281
  have hz283 := hc281.size
  have hC282 := hC276.step1 hc281 (by omega)
  refine WR.fin (by kernel_rfl) ?_
  exact fun _ ha => ⟨hc281, undef, ha, ⟨⟨fun h => absurd h (by decide), alNone (by decide)⟩, hb280⟩⟩
 intro u284 w285 hW286 hr287 _ _
 have hz291 := hW286.size
 have hC290 := hC220.step1 hW286 (by omega)
 have hp292 : Blk w285 g22 #[.int .u64 x204.1, .int .u64 x214.1] 25 := hr287 12 (by omega) (by kernel_rfl)
 refine WR.keep [8, 110] (F' := [(8, pt g22 0), (110, .bool ((ref11_below a2.Lo a1) == (ref11_below a2.Hi a1)))]) (by kernel_rfl) ?_
 refine WR.batch 1 [(8, pt g22 0), (9, .bool ((ref11_below a2.Lo a1) == (ref11_below a2.Hi a1)))] (by kernel_rfl) ?_
 refine WR.fin (by kernel_rfl) ?_
 refine go hK222 ?_
 refine CW.ret ?_
 exact retC [.agg #[.int .u64 x204.1, .int .u64 x214.1], .bool ((ref11_below a2.Lo a1) == (ref11_below a2.Hi a1))] _ rfl ⟨resCell hp292 rfl (by kernel_rfl), rfl, trivial⟩ (⟨hC290, (congrArg (fun r : (TSpan × Bool) => (.tuple #[TSpan.v r.1, .bool r.2] : Value)) hs217).symm⟩)

def ref11_Do_J0 (_a0 : Int) (a1 : Bool) (_a2 : TSpan) (_a3 : TSpan) (v100 : Bool) (v101 : Int) (v102 : Int) : TSpan := (if (!v100) then (letF (ref11_All a1) fun x526 => x526) else (⟨v101, v102⟩ : TSpan))

def ref11_Do_J4 (a0 : Int) (a1 : Bool) (a2 : TSpan) (a3 : TSpan) (_v200 : Bool) (_v300 : Bool) (_v400 : Bool) (v500 : Bool) : TSpan := (if v500 then (letF (ref11_shifts a0 a1 (ref11_cut a2 a1) (ref11_cut a3 a1)) fun x493 => (ref11_Do_J0 a0 a1 a2 a3 x493.2 x493.1.Lo x493.1.Hi)) else (ref11_Do_J0 a0 a1 a2 a3 true (ref11_cut a3 a1).Lo (ref11_cut a3 a1).Hi))

def ref11_Do_J3 (a0 : Int) (a1 : Bool) (a2 : TSpan) (a3 : TSpan) (v200 : Bool) (v300 : Bool) (v400 : Bool) : TSpan := (if v400 then (letF (ref11_logic a0 (ref11_cut a2 a1) (ref11_cut a3 a1)) fun x443 => (ref11_Do_J0 a0 a1 a2 a3 true x443.Lo x443.Hi)) else (if (a0 == (9 : Int)) then (ref11_Do_J4 a0 a1 a2 a3 v200 v300 v400 true) else (if (a0 == (10 : Int)) then (ref11_Do_J4 a0 a1 a2 a3 v200 v300 v400 true) else (ref11_Do_J4 a0 a1 a2 a3 v200 v300 v400 (a0 == (11 : Int))))))

def ref11_Do_J2 (a0 : Int) (a1 : Bool) (a2 : TSpan) (a3 : TSpan) (v200 : Bool) (v300 : Bool) : TSpan := (if v300 then (letF (ref11_parts a0 (ref11_cut a2 a1) (ref11_cut a3 a1)) fun x393 => (ref11_Do_J0 a0 a1 a2 a3 true x393.Lo x393.Hi)) else (if (a0 == (6 : Int)) then (ref11_Do_J3 a0 a1 a2 a3 v200 v300 true) else (if (a0 == (7 : Int)) then (ref11_Do_J3 a0 a1 a2 a3 v200 v300 true) else (ref11_Do_J3 a0 a1 a2 a3 v200 v300 (a0 == (8 : Int))))))

def ref11_Do_J1 (a0 : Int) (a1 : Bool) (a2 : TSpan) (a3 : TSpan) (v200 : Bool) : TSpan := (if v200 then (ref11_Do_J0 a0 a1 a2 a3 (ref11_sums a0 (ref11_most a1) (ref11_cut a2 a1) (ref11_cut a3 a1)).2 (ref11_sums a0 (ref11_most a1) (ref11_cut a2 a1) (ref11_cut a3 a1)).1.Lo (ref11_sums a0 (ref11_most a1) (ref11_cut a2 a1) (ref11_cut a3 a1)).1.Hi) else (if (a0 == (4 : Int)) then (ref11_Do_J2 a0 a1 a2 a3 v200 true) else (ref11_Do_J2 a0 a1 a2 a3 v200 (a0 == (5 : Int)))))

def ref11_Do (a0 : Int) (a1 : Bool) (a2 : TSpan) (a3 : TSpan)  : TSpan := (if ((((decide (a0 < (1 : Int))) || (decide (a0 > (13 : Int)))) || (!(ref11_Right a2))) || (!(ref11_Right a3))) then (letF (ref11_All a1) fun x63 => x63) else (if (a0 == (1 : Int)) then (ref11_Do_J1 a0 a1 a2 a3 true) else (if (a0 == (2 : Int)) then (ref11_Do_J1 a0 a1 a2 a3 true) else (if (a0 == (3 : Int)) then (ref11_Do_J1 a0 a1 a2 a3 true) else (ref11_Do_J1 a0 a1 a2 a3 (a0 == (13 : Int)))))))

theorem ref11_Do_J0_ok (a0 : Int) (a1 : Bool) (a2 : TSpan) (a3 : TSpan) (_h_a0 : IU8 a0) (_h_a2 : IU64 a2.Lo ∧ IU64 a2.Hi) (_h_a3 : IU64 a3.Lo ∧ IU64 a3.Hi)  (v100 : Bool) (v101 : Int) (v102 : Int) (_hr_v101 : IU64 v101) (_hr_v102 : IU64 v102) : IU64 (ref11_Do_J0 a0 a1 a2 a3 v100 v101 v102).Lo ∧ IU64 (ref11_Do_J0 a0 a1 a2 a3 v100 v101 v102).Hi := by
 rw [ref11_Do_J0.eq_1]
 refine iteR (p := fun r : TSpan => IU64 r.Lo ∧ IU64 r.Hi) (fun hi1001 => ?_) (fun hi1001 => ?_)
 ·
  replace hi1001 : v100 = false := (bNotT hi1001)
  refine letR (p := fun r : TSpan => IU64 r.Lo ∧ IU64 r.Hi) fun x526 hx527 => ?_
  have hx528 : IU64 x526.Lo ∧ IU64 x526.Hi := by rw [← hx527]; exact ref11_All_ok a1 
  exact (by exact (show IU64 x526.Lo ∧ IU64 x526.Hi from ⟨(by omega), (by omega)⟩))
 replace hi1001 : v100 = true := (bNotF hi1001)
 exact (by exact (show IU64 v101 ∧ IU64 v102 from ⟨(by omega), (by omega)⟩))

theorem ref11_Do_J4_ok (a0 : Int) (a1 : Bool) (a2 : TSpan) (a3 : TSpan) (v200 : Bool) (v300 : Bool) (v400 : Bool) (h_a0 : IU8 a0) (h_a2 : IU64 a2.Lo ∧ IU64 a2.Hi) (h_a3 : IU64 a3.Lo ∧ IU64 a3.Hi)  (v500 : Bool)  : IU64 (ref11_Do_J4 a0 a1 a2 a3 v200 v300 v400 v500).Lo ∧ IU64 (ref11_Do_J4 a0 a1 a2 a3 v200 v300 v400 v500).Hi := by
 rw [ref11_Do_J4.eq_1]
 refine iteR (p := fun r : TSpan => IU64 r.Lo ∧ IU64 r.Hi) (fun hi1002 => ?_) (fun hi1002 => ?_)
 ·
  refine letR (p := fun r : TSpan => IU64 r.Lo ∧ IU64 r.Hi) fun x493 hx494 => ?_
  have hx495 : IU64 x493.1.Lo ∧ IU64 x493.1.Hi := by have : IU64 (ref11_cut a2 a1).Lo ∧ IU64 (ref11_cut a2 a1).Hi := ref11_cut_ok a2 a1 ⟨(by omega), (by omega)⟩ ; have : IU64 (ref11_cut a3 a1).Lo ∧ IU64 (ref11_cut a3 a1).Hi := ref11_cut_ok a3 a1 ⟨(by omega), (by omega)⟩ ; rw [← hx494]; exact ref11_shifts_ok a0 a1 (ref11_cut a2 a1) (ref11_cut a3 a1) (by omega) ⟨(by omega), (by omega)⟩ ⟨(by omega), (by omega)⟩ 
  exact ref11_Do_J0_ok a0 a1 a2 a3 h_a0 h_a2 h_a3  x493.2 x493.1.Lo x493.1.Hi (by omega) (by omega)
 exact ref11_Do_J0_ok a0 a1 a2 a3 h_a0 h_a2 h_a3  true (ref11_cut a3 a1).Lo (ref11_cut a3 a1).Hi (by have : IU64 (ref11_cut a3 a1).Lo ∧ IU64 (ref11_cut a3 a1).Hi := ref11_cut_ok a3 a1 ⟨(by omega), (by omega)⟩ ; exact (by omega)) (by have : IU64 (ref11_cut a3 a1).Lo ∧ IU64 (ref11_cut a3 a1).Hi := ref11_cut_ok a3 a1 ⟨(by omega), (by omega)⟩ ; exact (by omega))

theorem ref11_Do_J3_ok (a0 : Int) (a1 : Bool) (a2 : TSpan) (a3 : TSpan) (v200 : Bool) (v300 : Bool) (h_a0 : IU8 a0) (h_a2 : IU64 a2.Lo ∧ IU64 a2.Hi) (h_a3 : IU64 a3.Lo ∧ IU64 a3.Hi)  (v400 : Bool)  : IU64 (ref11_Do_J3 a0 a1 a2 a3 v200 v300 v400).Lo ∧ IU64 (ref11_Do_J3 a0 a1 a2 a3 v200 v300 v400).Hi := by
 rw [ref11_Do_J3.eq_1]
 refine iteR (p := fun r : TSpan => IU64 r.Lo ∧ IU64 r.Hi) (fun hi1003 => ?_) (fun hi1003 => ?_)
 ·
  refine letR (p := fun r : TSpan => IU64 r.Lo ∧ IU64 r.Hi) fun x443 hx444 => ?_
  have hx445 : IU64 x443.Lo ∧ IU64 x443.Hi := by have : IU64 (ref11_cut a2 a1).Lo ∧ IU64 (ref11_cut a2 a1).Hi := ref11_cut_ok a2 a1 ⟨(by omega), (by omega)⟩ ; have : IU64 (ref11_cut a3 a1).Lo ∧ IU64 (ref11_cut a3 a1).Hi := ref11_cut_ok a3 a1 ⟨(by omega), (by omega)⟩ ; rw [← hx444]; exact ref11_logic_ok a0 (ref11_cut a2 a1) (ref11_cut a3 a1) (by omega) ⟨(by omega), (by omega)⟩ ⟨(by omega), (by omega)⟩ 
  exact ref11_Do_J0_ok a0 a1 a2 a3 h_a0 h_a2 h_a3  true x443.Lo x443.Hi (by omega) (by omega)
 refine iteR (p := fun r : TSpan => IU64 r.Lo ∧ IU64 r.Hi) (fun hi1004 => ?_) (fun hi1004 => ?_)
 ·
  replace hi1004 : a0 = (9 : Int) := (bEqT hi1004)
  exact ref11_Do_J4_ok a0 a1 a2 a3 v200 v300 v400 h_a0 h_a2 h_a3  true 
 replace hi1004 : a0 ≠ (9 : Int) := (bEqF hi1004)
 refine iteR (p := fun r : TSpan => IU64 r.Lo ∧ IU64 r.Hi) (fun hi1005 => ?_) (fun hi1005 => ?_)
 ·
  replace hi1005 : a0 = (10 : Int) := (bEqT hi1005)
  exact ref11_Do_J4_ok a0 a1 a2 a3 v200 v300 v400 h_a0 h_a2 h_a3  true 
 replace hi1005 : a0 ≠ (10 : Int) := (bEqF hi1005)
 exact ref11_Do_J4_ok a0 a1 a2 a3 v200 v300 v400 h_a0 h_a2 h_a3  (a0 == (11 : Int)) 

theorem ref11_Do_J2_ok (a0 : Int) (a1 : Bool) (a2 : TSpan) (a3 : TSpan) (v200 : Bool) (h_a0 : IU8 a0) (h_a2 : IU64 a2.Lo ∧ IU64 a2.Hi) (h_a3 : IU64 a3.Lo ∧ IU64 a3.Hi)  (v300 : Bool)  : IU64 (ref11_Do_J2 a0 a1 a2 a3 v200 v300).Lo ∧ IU64 (ref11_Do_J2 a0 a1 a2 a3 v200 v300).Hi := by
 rw [ref11_Do_J2.eq_1]
 refine iteR (p := fun r : TSpan => IU64 r.Lo ∧ IU64 r.Hi) (fun hi1006 => ?_) (fun hi1006 => ?_)
 ·
  refine letR (p := fun r : TSpan => IU64 r.Lo ∧ IU64 r.Hi) fun x393 hx394 => ?_
  have hx395 : IU64 x393.Lo ∧ IU64 x393.Hi := by have : IU64 (ref11_cut a2 a1).Lo ∧ IU64 (ref11_cut a2 a1).Hi := ref11_cut_ok a2 a1 ⟨(by omega), (by omega)⟩ ; have : IU64 (ref11_cut a3 a1).Lo ∧ IU64 (ref11_cut a3 a1).Hi := ref11_cut_ok a3 a1 ⟨(by omega), (by omega)⟩ ; rw [← hx394]; exact ref11_parts_ok a0 (ref11_cut a2 a1) (ref11_cut a3 a1) (by omega) ⟨(by omega), (by omega)⟩ ⟨(by omega), (by omega)⟩ 
  exact ref11_Do_J0_ok a0 a1 a2 a3 h_a0 h_a2 h_a3  true x393.Lo x393.Hi (by omega) (by omega)
 refine iteR (p := fun r : TSpan => IU64 r.Lo ∧ IU64 r.Hi) (fun hi1007 => ?_) (fun hi1007 => ?_)
 ·
  replace hi1007 : a0 = (6 : Int) := (bEqT hi1007)
  exact ref11_Do_J3_ok a0 a1 a2 a3 v200 v300 h_a0 h_a2 h_a3  true 
 replace hi1007 : a0 ≠ (6 : Int) := (bEqF hi1007)
 refine iteR (p := fun r : TSpan => IU64 r.Lo ∧ IU64 r.Hi) (fun hi1008 => ?_) (fun hi1008 => ?_)
 ·
  replace hi1008 : a0 = (7 : Int) := (bEqT hi1008)
  exact ref11_Do_J3_ok a0 a1 a2 a3 v200 v300 h_a0 h_a2 h_a3  true 
 replace hi1008 : a0 ≠ (7 : Int) := (bEqF hi1008)
 exact ref11_Do_J3_ok a0 a1 a2 a3 v200 v300 h_a0 h_a2 h_a3  (a0 == (8 : Int)) 

theorem ref11_Do_J1_ok (a0 : Int) (a1 : Bool) (a2 : TSpan) (a3 : TSpan) (h_a0 : IU8 a0) (h_a2 : IU64 a2.Lo ∧ IU64 a2.Hi) (h_a3 : IU64 a3.Lo ∧ IU64 a3.Hi)  (v200 : Bool)  : IU64 (ref11_Do_J1 a0 a1 a2 a3 v200).Lo ∧ IU64 (ref11_Do_J1 a0 a1 a2 a3 v200).Hi := by
 rw [ref11_Do_J1.eq_1]
 refine iteR (p := fun r : TSpan => IU64 r.Lo ∧ IU64 r.Hi) (fun hi1009 => ?_) (fun hi1009 => ?_)
 ·
  exact ref11_Do_J0_ok a0 a1 a2 a3 h_a0 h_a2 h_a3  (ref11_sums a0 (ref11_most a1) (ref11_cut a2 a1) (ref11_cut a3 a1)).2 (ref11_sums a0 (ref11_most a1) (ref11_cut a2 a1) (ref11_cut a3 a1)).1.Lo (ref11_sums a0 (ref11_most a1) (ref11_cut a2 a1) (ref11_cut a3 a1)).1.Hi (by have : IU64 (ref11_cut a2 a1).Lo ∧ IU64 (ref11_cut a2 a1).Hi := ref11_cut_ok a2 a1 ⟨(by omega), (by omega)⟩ ; have : IU64 (ref11_cut a3 a1).Lo ∧ IU64 (ref11_cut a3 a1).Hi := ref11_cut_ok a3 a1 ⟨(by omega), (by omega)⟩ ; have : IU64 (ref11_most a1) := ref11_most_ok a1 ; have : IU64 (ref11_sums a0 (ref11_most a1) (ref11_cut a2 a1) (ref11_cut a3 a1)).1.Lo ∧ IU64 (ref11_sums a0 (ref11_most a1) (ref11_cut a2 a1) (ref11_cut a3 a1)).1.Hi := ref11_sums_ok a0 (ref11_most a1) (ref11_cut a2 a1) (ref11_cut a3 a1) (by omega) (by omega) ⟨(by omega), (by omega)⟩ ⟨(by omega), (by omega)⟩ ; exact (by omega)) (by have : IU64 (ref11_cut a2 a1).Lo ∧ IU64 (ref11_cut a2 a1).Hi := ref11_cut_ok a2 a1 ⟨(by omega), (by omega)⟩ ; have : IU64 (ref11_cut a3 a1).Lo ∧ IU64 (ref11_cut a3 a1).Hi := ref11_cut_ok a3 a1 ⟨(by omega), (by omega)⟩ ; have : IU64 (ref11_most a1) := ref11_most_ok a1 ; have : IU64 (ref11_sums a0 (ref11_most a1) (ref11_cut a2 a1) (ref11_cut a3 a1)).1.Lo ∧ IU64 (ref11_sums a0 (ref11_most a1) (ref11_cut a2 a1) (ref11_cut a3 a1)).1.Hi := ref11_sums_ok a0 (ref11_most a1) (ref11_cut a2 a1) (ref11_cut a3 a1) (by omega) (by omega) ⟨(by omega), (by omega)⟩ ⟨(by omega), (by omega)⟩ ; exact (by omega))
 refine iteR (p := fun r : TSpan => IU64 r.Lo ∧ IU64 r.Hi) (fun hi1010 => ?_) (fun hi1010 => ?_)
 ·
  replace hi1010 : a0 = (4 : Int) := (bEqT hi1010)
  exact ref11_Do_J2_ok a0 a1 a2 a3 v200 h_a0 h_a2 h_a3  true 
 replace hi1010 : a0 ≠ (4 : Int) := (bEqF hi1010)
 exact ref11_Do_J2_ok a0 a1 a2 a3 v200 h_a0 h_a2 h_a3  (a0 == (5 : Int)) 

theorem ref11_Do_ok (a0 : Int) (a1 : Bool) (a2 : TSpan) (a3 : TSpan)  (h_a0 : IU8 a0) (h_a2 : IU64 a2.Lo ∧ IU64 a2.Hi) (h_a3 : IU64 a3.Lo ∧ IU64 a3.Hi)  : IU64 (ref11_Do a0 a1 a2 a3).Lo ∧ IU64 (ref11_Do a0 a1 a2 a3).Hi := by
 rw [ref11_Do.eq_1]
 refine iteR (p := fun r : TSpan => IU64 r.Lo ∧ IU64 r.Hi) (fun hi1011 => ?_) (fun hi1011 => ?_)
 ·
  replace hi1011 : (((a0 < (1 : Int)) ∨ (a0 > (13 : Int))) ∨ ((ref11_Right a2) = false)) ∨ ((ref11_Right a3) = false) := (orMap (bOrT hi1011) (fun h => (orMap (bOrT h) (fun h => (orMap (bOrT h) (fun h => (of_decide_eq_true h)) (fun h => (of_decide_eq_true h)))) (fun h => (bNotT h)))) (fun h => (bNotT h)))
  refine letR (p := fun r : TSpan => IU64 r.Lo ∧ IU64 r.Hi) fun x63 hx64 => ?_
  have hx65 : IU64 x63.Lo ∧ IU64 x63.Hi := by rw [← hx64]; exact ref11_All_ok a1 
  exact (by exact (show IU64 x63.Lo ∧ IU64 x63.Hi from ⟨(by omega), (by omega)⟩))
 replace hi1011 : (((¬ (a0 < (1 : Int))) ∧ (¬ (a0 > (13 : Int)))) ∧ ((ref11_Right a2) = true)) ∧ ((ref11_Right a3) = true) := ⟨⟨⟨(of_decide_eq_false (bOrF (bOrF (bOrF hi1011).1).1).1), (of_decide_eq_false (bOrF (bOrF (bOrF hi1011).1).1).2)⟩, (bNotF (bOrF (bOrF hi1011).1).2)⟩, (bNotF (bOrF hi1011).2)⟩
 refine iteR (p := fun r : TSpan => IU64 r.Lo ∧ IU64 r.Hi) (fun hi1012 => ?_) (fun hi1012 => ?_)
 ·
  replace hi1012 : a0 = (1 : Int) := (bEqT hi1012)
  exact ref11_Do_J1_ok a0 a1 a2 a3 h_a0 h_a2 h_a3  true 
 replace hi1012 : a0 ≠ (1 : Int) := (bEqF hi1012)
 refine iteR (p := fun r : TSpan => IU64 r.Lo ∧ IU64 r.Hi) (fun hi1013 => ?_) (fun hi1013 => ?_)
 ·
  replace hi1013 : a0 = (2 : Int) := (bEqT hi1013)
  exact ref11_Do_J1_ok a0 a1 a2 a3 h_a0 h_a2 h_a3  true 
 replace hi1013 : a0 ≠ (2 : Int) := (bEqF hi1013)
 refine iteR (p := fun r : TSpan => IU64 r.Lo ∧ IU64 r.Hi) (fun hi1014 => ?_) (fun hi1014 => ?_)
 ·
  replace hi1014 : a0 = (3 : Int) := (bEqT hi1014)
  exact ref11_Do_J1_ok a0 a1 a2 a3 h_a0 h_a2 h_a3  true 
 replace hi1014 : a0 ≠ (3 : Int) := (bEqF hi1014)
 exact ref11_Do_J1_ok a0 a1 a2 a3 h_a0 h_a2 h_a3  (a0 == (13 : Int)) 

set_option maxRecDepth 100000 in
set_option maxHeartbeats 4000000 in
theorem ref11_Do_any (a0 : Int) (a1 : Bool) (a2 : TSpan) (a3 : TSpan)   (w : World)  (_h_a0 : IU8 a0) (_h_a2 : IU64 a2.Lo ∧ IU64 a2.Hi) (_h_a3 : IU64 a3.Lo ∧ IU64 a3.Hi)  : Calls Try.prog 49 #[.int .u8 a0, .bool a1, .agg #[.int .u64 a2.Lo, .int .u64 a2.Hi], .agg #[.int .u64 a3.Lo, .int .u64 a3.Hi]] w (RetV w (TSpan.v (ref11_Do a0 a1 a2 a3))) := by
 have hs := ref11_Do.eq_1 a0 a1 a2 a3
 refine calls_of_CW Try.func49 rfl (n := 85) Try.ntmps49 (by kernel_rfl) [0, 1, 2, 3] (F := [(0, .int .u8 a0), (1, .bool a1), (2, .agg #[.int .u64 a2.Lo, .int .u64 a2.Hi]), (3, .agg #[.int .u64 a3.Lo, .int .u64 a3.Hi])]) (by kernel_rfl) ?_
 refine CW.seq fun K1 hK1 => ?_
 refine CW.region ?_
 refine WR.box (dst := some 6) (e := 25) (v := .agg #[.int .u64 a2.Lo, .int .u64 a2.Hi]) (by kernel_rfl) #[.int .u64 a2.Lo, .int .u64 a2.Hi] (by kernel_rfl) ?_
 intro g2 w3 hN4
 have hf6 : w.heap.size ≤ g2 := hN4.fresh
 have hfr8 := hN4.fresh
 have hc7 := hN4.chg
 have hz10 := hc7.size
 have hC9 := (Chg.refl [] w).pure hc7
 have hb5 := hN4.blk
 have hg11 := hb5.lt
 refine WR.box (dst := some 7) (e := 25) (v := .agg #[.int .u64 a3.Lo, .int .u64 a3.Hi]) (by kernel_rfl) #[.int .u64 a3.Lo, .int .u64 a3.Hi] (by kernel_rfl) ?_
 intro g12 w13 hN14
 have hf16 : w.heap.size ≤ g12 := Nat.le_trans hC9.size hN14.fresh
 have hfr18 := hN14.fresh
 have hc17 := hN14.chg
 have hz20 := hc17.size
 have hC19 := hC9.pure hc17
 have hb15 := hN14.blk
 have hg21 := hb15.lt
 refine WR.alloc (dst := some 8) (e := 25) (by kernel_rfl) #[.int .u64 0, .int .u64 0] (by kernel_rfl) ?_
 intro g22 w23 hN24
 have hf26 : w.heap.size ≤ g22 := Nat.le_trans hC19.size hN24.fresh
 have hfr28 := hN24.fresh
 have hc27 := hN24.chg
 have hz30 := hc27.size
 have hC29 := hC19.pure hc27
 have hb25 := hN24.blk
 have hg31 := hb25.lt
 refine WR.fin (by kernel_rfl) ?_
 refine go hK1 ?_
 refine CW.seq fun K32 hK32 => ?_
 refine CW.seq fun K33 hK33 => ?_
 refine CW.region ?_
 refine WR.batch 3 [(0, .int .u8 a0), (1, .bool a1), (6, pt g2 0), (7, pt g12 0), (8, pt g22 0), (15, .bool (decide (a0 < (1 : Int))))] (by kernel_rfl) ?_
 refine WR.batch 3 [(0, .int .u8 a0), (1, .bool a1), (6, pt g2 0), (7, pt g12 0), (8, pt g22 0), (18, .bool ((decide (a0 < (1 : Int))) || (decide (a0 > (13 : Int)))))] (by generalize decide (a0 < (1 : Int)) = b; cases b <;> kernel_rfl) ?_
 refine WR.batch 1 [(0, .int .u8 a0), (1, .bool a1), (6, pt g2 0), (7, pt g12 0), (8, pt g22 0), (19, .bool ((decide (a0 < (1 : Int))) || (decide (a0 > (13 : Int)))))] (by kernel_rfl) ?_
 refine WR.mergeW 11 [(0, .int .u8 a0), (1, .bool a1), (6, pt g2 0), (7, pt g12 0), (8, pt g22 0), (23, .bool (((decide (a0 < (1 : Int))) || (decide (a0 > (13 : Int)))) || (!(ref11_Right a2))))] (fun w' => Chg [] w23 w') (fun Q' => ?_) ?_
 ·
  cases hg34 : ((decide (a0 < (1 : Int))) || (decide (a0 > (13 : Int))))
  ·
   have hk36 := hg34
   replace hg34 : (¬ (a0 < (1 : Int))) ∧ (¬ (a0 > (13 : Int))) := ⟨(of_decide_eq_false (bOrF hg34).1), (of_decide_eq_false (bOrF hg34).2)⟩
   intro hM35
   have hb37 := (hb5.pure hc17).pure hc27
   refine WR.load (dst := some 20) (t := 25) (o := 0) hb37 (by kernel_rfl) (.agg #[.int .u64 a2.Lo, .int .u64 a2.Hi]) (by kernel_rfl) ?_
   refine WR.call (dst := some 21) (by kernel_rfl) (ref11_Right_any a2 w23  ⟨(by omega), (by omega)⟩ ) ?_
   rintro _ w38 hc39 rfl
   have hz41 := hc39.size
   have hC40 := hC29.pure hc39
   refine WR.batch 2 [(0, .int .u8 a0), (1, .bool a1), (6, pt g2 0), (7, pt g12 0), (8, pt g22 0), (23, .bool (!(ref11_Right a2)))] (by kernel_rfl) ?_
   exact WR.keep [0, 1, 6, 7, 8, 23] (by kernel_rfl) (hM35 _ ((Chg.refl [] w23).pure hc39))
  ·
   have hk42 := hg34
   replace hg34 : (a0 < (1 : Int)) ∨ (a0 > (13 : Int)) := (orMap (bOrT hg34) (fun h => (of_decide_eq_true h)) (fun h => (of_decide_eq_true h)))
   intro hM35
   refine WR.batch 4 [(0, .int .u8 a0), (1, .bool a1), (6, pt g2 0), (7, pt g12 0), (8, pt g22 0), (23, .bool true)] (by kernel_rfl) ?_
   exact WR.keep [0, 1, 6, 7, 8, 23] (by kernel_rfl) (hM35 _ (Chg.refl [] w23))
 intro w43 hc44
 have hz46 := hc44.size
 have hC45 := hC29.pure hc44
 refine WR.batch 1 [(0, .int .u8 a0), (1, .bool a1), (6, pt g2 0), (7, pt g12 0), (8, pt g22 0), (24, .bool (((decide (a0 < (1 : Int))) || (decide (a0 > (13 : Int)))) || (!(ref11_Right a2))))] (by kernel_rfl) ?_
 refine WR.mergeW 16 [(0, .int .u8 a0), (1, .bool a1), (6, pt g2 0), (7, pt g12 0), (8, pt g22 0), (28, .bool ((((decide (a0 < (1 : Int))) || (decide (a0 > (13 : Int)))) || (!(ref11_Right a2))) || (!(ref11_Right a3))))] (fun w' => Chg [] w43 w') (fun Q' => ?_) ?_
 ·
  cases hg47 : (((decide (a0 < (1 : Int))) || (decide (a0 > (13 : Int)))) || (!(ref11_Right a2)))
  ·
   have hk49 := hg47
   replace hg47 : ((¬ (a0 < (1 : Int))) ∧ (¬ (a0 > (13 : Int)))) ∧ ((ref11_Right a2) = true) := ⟨⟨(of_decide_eq_false (bOrF (bOrF hg47).1).1), (of_decide_eq_false (bOrF (bOrF hg47).1).2)⟩, (bNotF (bOrF hg47).2)⟩
   intro hM48
   have hb50 := (hb15.pure hc27).pure hc44
   refine WR.load (dst := some 25) (t := 25) (o := 0) hb50 (by kernel_rfl) (.agg #[.int .u64 a3.Lo, .int .u64 a3.Hi]) (by kernel_rfl) ?_
   refine WR.call (dst := some 26) (by kernel_rfl) (ref11_Right_any a3 w43  ⟨(by omega), (by omega)⟩ ) ?_
   rintro _ w51 hc52 rfl
   have hz54 := hc52.size
   have hC53 := hC45.pure hc52
   refine WR.batch 2 [(0, .int .u8 a0), (1, .bool a1), (6, pt g2 0), (7, pt g12 0), (8, pt g22 0), (28, .bool (!(ref11_Right a3)))] (by kernel_rfl) ?_
   exact WR.keep [0, 1, 6, 7, 8, 28] (by kernel_rfl) (hM48 _ ((Chg.refl [] w43).pure hc52))
  ·
   have hk55 := hg47
   replace hg47 : ((a0 < (1 : Int)) ∨ (a0 > (13 : Int))) ∨ ((ref11_Right a2) = false) := (orMap (bOrT hg47) (fun h => (orMap (bOrT h) (fun h => (of_decide_eq_true h)) (fun h => (of_decide_eq_true h)))) (fun h => (bNotT h)))
   intro hM48
   refine WR.batch 4 [(0, .int .u8 a0), (1, .bool a1), (6, pt g2 0), (7, pt g12 0), (8, pt g22 0), (28, .bool true)] (by kernel_rfl) ?_
   exact WR.keep [0, 1, 6, 7, 8, 28] (by kernel_rfl) (hM48 _ (Chg.refl [] w43))
 intro w56 hc57
 have hz59 := hc57.size
 have hC58 := hC45.pure hc57
 refine WR.fin (by kernel_rfl) ?_
 refine go hK33 ?_
 refine CW.cond (((((decide (a0 < (1 : Int))) || (decide (a0 > (13 : Int)))) || (!(ref11_Right a2))) || (!(ref11_Right a3)))) (by kernel_rfl) (fun ht60 => ?_) (fun ht60 => ?_)
 ·
  have hs61 := ifT ht60 hs
  replace ht60 : (((a0 < (1 : Int)) ∨ (a0 > (13 : Int))) ∨ ((ref11_Right a2) = false)) ∨ ((ref11_Right a3) = false) := (orMap (bOrT ht60) (fun h => (orMap (bOrT h) (fun h => (orMap (bOrT h) (fun h => (of_decide_eq_true h)) (fun h => (of_decide_eq_true h)))) (fun h => (bNotT h)))) (fun h => (bNotT h)))
  refine CW.seq fun K62 hK62 => ?_
  refine CW.region ?_
  refine WR.batch 1 [(8, pt g22 0), (29, .bool a1)] (by kernel_rfl) ?_
  obtain ⟨x63, hx64⟩ : ∃ x, ref11_All a1 = x := ⟨_, rfl⟩
  have hs66 := letS hx64 hs61
  have hx65 : IU64 x63.Lo ∧ IU64 x63.Hi := by rw [← hx64]; exact ref11_All_ok a1 
  refine WR.call (dst := some 30) (by kernel_rfl) (retE (g := TSpan.v) hx64 (ref11_All_any a1 w56  )) ?_
  rintro _ w67 hc68 rfl
  have hz70 := hc68.size
  have hC69 := hC58.pure hc68
  have hb74 := ((hb25.pure hc44).pure hc57).pure hc68
  refine WR.store (t := 25) (o := 0) (v := .agg #[.int .u64 x63.Lo, .int .u64 x63.Hi]) hb74 (by kernel_rfl) #[.int .u64 x63.Lo, .int .u64 x63.Hi] (by kernel_rfl) ?_
  intro w71 hb72 hc73
  have hz76 := hc73.size
  have hC75 := hC69.step1 hc73 (by omega)
  refine WR.fin (by kernel_rfl) ?_
  refine go hK62 ?_
  refine CW.ret ?_
  exact retC [.agg #[.int .u64 x63.Lo, .int .u64 x63.Hi]] _ rfl ⟨resCell hb72 rfl (by kernel_rfl), trivial⟩ (⟨hC75, (congrArg TSpan.v hs66).symm⟩)
 have hs77 := ifF ht60 hs
 replace ht60 : (((¬ (a0 < (1 : Int))) ∧ (¬ (a0 > (13 : Int)))) ∧ ((ref11_Right a2) = true)) ∧ ((ref11_Right a3) = true) := ⟨⟨⟨(of_decide_eq_false (bOrF (bOrF (bOrF ht60).1).1).1), (of_decide_eq_false (bOrF (bOrF (bOrF ht60).1).1).2)⟩, (bNotF (bOrF (bOrF ht60).1).2)⟩, (bNotF (bOrF ht60).2)⟩
 refine CW.skip ?_
 refine go hK32 ?_
 refine CW.seq fun K78 hK78 => ?_
 refine CW.keep [0, 1, 6, 7, 8] (F' := [(0, .int .u8 a0), (1, .bool a1), (6, pt g2 0), (7, pt g12 0), (8, pt g22 0)]) (by kernel_rfl) ?_
 refine CW.regionG 8 [some (.agg #[.int .u64 a2.Lo, .int .u64 a2.Hi]), some (.bool a1), some (.agg #[.int .u64 (ref11_cut a2 a1).Lo, .int .u64 (ref11_cut a2 a1).Hi]), some (.agg #[.int .u64 a3.Lo, .int .u64 a3.Hi]), some (.bool a1), some (.agg #[.int .u64 (ref11_cut a3 a1).Lo, .int .u64 (ref11_cut a3 a1).Hi]), none, none] (fun u => [(31, .agg #[.int .u64 a2.Lo, .int .u64 a2.Hi]), (32, .bool a1), (33, .agg #[.int .u64 (ref11_cut a2 a1).Lo, .int .u64 (ref11_cut a2 a1).Hi]), (34, .agg #[.int .u64 a3.Lo, .int .u64 a3.Hi]), (35, .bool a1), (36, .agg #[.int .u64 (ref11_cut a3 a1).Lo, .int .u64 (ref11_cut a3 a1).Hi]), (9, u 6), (10, u 7), (0, .int .u8 a0), (1, .bool a1), (6, pt g2 0), (7, pt g12 0), (8, pt g22 0)]) (fun _ => by kernel_rfl) (by kernel_rfl) [] (fun _ _ => True) (fun _ => trivial) (fun _ _ _ _ _ _ _ => trivial) [6, 7] [] (by kernel_rfl) (fun w' => Chg [] w56 w') (fun i v w' => match i with | 0 => True | 1 => True | 2 => True | 3 => True | 4 => True | 5 => True | 6 => ∃ g, v = .pointer (some ⟨g, 0, none⟩) ∧ Blk w' g #[.int .u64 0, .int .u64 0] 25 ∧ w56.heap.size ≤ g | 7 => ∃ g, v = .pointer (some ⟨g, 0, none⟩) ∧ Blk w' g #[.int .u64 0, .int .u64 0] 25 ∧ w56.heap.size ≤ g | _ => True) (fun j x w hj h => match j, hj, h with | 0, hj, h => absurd hj (by decide) | 1, hj, h => absurd hj (by decide) | 2, hj, h => absurd hj (by decide) | 3, hj, h => absurd hj (by decide) | 4, hj, h => absurd hj (by decide) | 5, hj, h => absurd hj (by decide) | 6, hj, h => newLt h | 7, hj, h => newLt h | j + 8, hj, _ => absurd hj (by simp)) (by kernel_rfl) (by kernel_rfl) (by kernel_rfl) (by kernel_rfl) (Chg.drew w56) (fun _ _ _ h h' => h.step h' (fun t ht => .inl (cL_sub t ht))) ?_ ⟨?_, (obsG_batch 1 1 6 (fun _ _ => by kernel_rfl) (by kernel_rfl) ⟨?_, ⟨?_, (obsG_batch 1 4 3 (fun _ _ => by kernel_rfl) (by kernel_rfl) ⟨?_, ⟨?_, ⟨?_, trivial⟩⟩⟩)⟩⟩)⟩ ?_
 ·
  intro i j v w1 w2 hij h hc
  match j, hij, h with
  | 0, _, _ => trivial
  | 1, _, _ => trivial
  | 2, _, _ => trivial
  | 3, _, _ => trivial
  | 4, _, _ => trivial
  | 5, _, _ => trivial
  | 6, _, h => exact h.elim fun g h => ⟨g, h.1, h.2.1.pure hc, h.2.2⟩
  | 7, _, h => exact h.elim fun g h => ⟨g, h.1, h.2.1.pure hc, h.2.2⟩
  | n + 8, _, _ => trivial
 ·
  intro u79 w80 hW81 _ hp82 hal83
  have hz86 := hW81.size
  have hC85 := hC58.pure hW81
  have hb87 := ((((hb5.pure hc17).pure hc27).pure hc44).pure hc57).pure hW81
  refine WR.load (dst := some 31) (t := 25) (o := 0) hb87 (by kernel_rfl) (.agg #[.int .u64 a2.Lo, .int .u64 a2.Hi]) (by kernel_rfl) ?_
  refine WR.fin (by kernel_rfl) ?_
  exact fun _ ha => ⟨Chg.refl _ _, _, ha, ⟨⟨fun h => absurd h (by decide), alNone (by decide)⟩, rfl⟩⟩
 ·
  intro u88 w89 hW90 _ hp91 hal92
  have hz95 := hW90.size
  have hC94 := hC58.pure hW90
  have hx96 : IU64 (ref11_cut a2 a1).Lo ∧ IU64 (ref11_cut a2 a1).Hi := ref11_cut_ok a2 a1 ⟨(by omega), (by omega)⟩ 
  have hx97 : IU64 (ref11_cut a3 a1).Lo ∧ IU64 (ref11_cut a3 a1).Hi := ref11_cut_ok a3 a1 ⟨(by omega), (by omega)⟩ 
  have hx98 : IU64 (ref11_cut a2 a1).Lo ∧ IU64 (ref11_cut a2 a1).Hi := ref11_cut_ok a2 a1 ⟨(by omega), (by omega)⟩ 
  refine WR.call (dst := some 33) (by kernel_rfl) (ref11_cut_any a2 a1 w89  ⟨(by omega), (by omega)⟩ ) ?_
  rintro _ w99 hc100 rfl
  have hz102 := hc100.size
  have hC101 := hC94.pure hc100
  refine WR.fin (by kernel_rfl) ?_
  exact fun _ ha => ⟨hc100, _, ha, ⟨⟨fun h => absurd h (by decide), alNone (by decide)⟩, rfl⟩⟩
 ·
  intro u103 w104 hW105 _ hp106 hal107
  have hz110 := hW105.size
  have hC109 := hC58.pure hW105
  have hb111 := (((hb15.pure hc27).pure hc44).pure hc57).pure hW105
  refine WR.load (dst := some 34) (t := 25) (o := 0) hb111 (by kernel_rfl) (.agg #[.int .u64 a3.Lo, .int .u64 a3.Hi]) (by kernel_rfl) ?_
  refine WR.fin (by kernel_rfl) ?_
  exact fun _ ha => ⟨Chg.refl _ _, _, ha, ⟨⟨fun h => absurd h (by decide), alNone (by decide)⟩, rfl⟩⟩
 ·
  intro u112 w113 hW114 _ hp115 hal116
  have hz119 := hW114.size
  have hC118 := hC58.pure hW114
  have hx120 : IU64 (ref11_cut a2 a1).Lo ∧ IU64 (ref11_cut a2 a1).Hi := ref11_cut_ok a2 a1 ⟨(by omega), (by omega)⟩ 
  have hx121 : IU64 (ref11_cut a3 a1).Lo ∧ IU64 (ref11_cut a3 a1).Hi := ref11_cut_ok a3 a1 ⟨(by omega), (by omega)⟩ 
  have hx122 : IU64 (ref11_cut a3 a1).Lo ∧ IU64 (ref11_cut a3 a1).Hi := ref11_cut_ok a3 a1 ⟨(by omega), (by omega)⟩ 
  refine WR.call (dst := some 36) (by kernel_rfl) (ref11_cut_any a3 a1 w113  ⟨(by omega), (by omega)⟩ ) ?_
  rintro _ w123 hc124 rfl
  have hz126 := hc124.size
  have hC125 := hC118.pure hc124
  refine WR.fin (by kernel_rfl) ?_
  exact fun _ ha => ⟨hc124, _, ha, ⟨⟨fun h => absurd h (by decide), alNone (by decide)⟩, rfl⟩⟩
 ·
  intro u127 w128 hW129 _ hp130 hal131
  have hz134 := hW129.size
  have hC133 := hC58.pure hW129
  refine WR.alloc (dst := some 9) (e := 25) (by kernel_rfl) #[.int .u64 0, .int .u64 0] (by kernel_rfl) ?_
  intro g135 w136 hN137
  have hf139 : w.heap.size ≤ g135 := Nat.le_trans hC133.size hN137.fresh
  have hfr141 := hN137.fresh
  have hc140 := hN137.chg
  have hz143 := hc140.size
  have hC142 := hC133.pure hc140
  have hb138 := hN137.blk
  have hg144 := hb138.lt
  refine WR.fin (by kernel_rfl) ?_
  exact fun _ ha => ⟨hc140, _, ha, ⟨⟨fun _ => .inr (by simp only [adOf, bk]; omega), alNone (by decide)⟩, ⟨g135, rfl, hb138, by omega⟩⟩⟩
 ·
  intro u145 w146 hW147 _ hp148 hal149
  have hz152 := hW147.size
  have hC151 := hC58.pure hW147
  refine WR.alloc (dst := some 10) (e := 25) (by kernel_rfl) #[.int .u64 0, .int .u64 0] (by kernel_rfl) ?_
  intro g153 w154 hN155
  have hf157 : w.heap.size ≤ g153 := Nat.le_trans hC151.size hN155.fresh
  have hfr159 := hN155.fresh
  have hc158 := hN155.chg
  have hz161 := hc158.size
  have hC160 := hC151.pure hc158
  have hb156 := hN155.blk
  have hg162 := hb156.lt
  refine WR.fin (by kernel_rfl) ?_
  exact fun _ ha => ⟨hc158, _, ha, ⟨⟨fun _ => .inr (by simp only [adOf, bk]; omega), alNone (by decide)⟩, ⟨g153, rfl, hb156, by omega⟩⟩⟩
 intro u163 w164 hW165 hr166 hD167 _
 have hz170 := hW165.size
 have hC169 := hC58.pure hW165
 obtain ⟨g172, hp171, hb173, hf174⟩ : ∃ g, u163 6 = .pointer (some ⟨g, 0, none⟩) ∧ Blk w164 g #[.int .u64 0, .int .u64 0] 25 ∧ w56.heap.size ≤ g := hr166 6 (by omega) (by kernel_rfl)
 have hg175 := hb173.lt
 have hf176 : w.heap.size ≤ g172 := Nat.le_trans hC58.size hf174
 obtain ⟨g178, hp177, hb179, hf180⟩ : ∃ g, u163 7 = .pointer (some ⟨g, 0, none⟩) ∧ Blk w164 g #[.int .u64 0, .int .u64 0] 25 ∧ w56.heap.size ≤ g := hr166 7 (by omega) (by kernel_rfl)
 have hg181 := hb179.lt
 have hf182 : w.heap.size ≤ g178 := Nat.le_trans hC58.size hf180
 have hne183 : g178 ≠ g172 := by have h := hD167 7 6 (by omega) (by omega) (by decide) (by decide) (by decide); rw [hp177, hp171] at h; exact ptrApart h
 have hx184 : IU64 (ref11_cut a2 a1).Lo ∧ IU64 (ref11_cut a2 a1).Hi := ref11_cut_ok a2 a1 ⟨(by omega), (by omega)⟩ 
 have hx185 : IU64 (ref11_cut a3 a1).Lo ∧ IU64 (ref11_cut a3 a1).Hi := ref11_cut_ok a3 a1 ⟨(by omega), (by omega)⟩ 
 refine WR.keep [0, 1, 8, 9, 10, 33, 36] (F' := [(0, .int .u8 a0), (1, .bool a1), (8, pt g22 0), (9, u163 6), (10, u163 7), (33, .agg #[.int .u64 (ref11_cut a2 a1).Lo, .int .u64 (ref11_cut a2 a1).Hi]), (36, .agg #[.int .u64 (ref11_cut a3 a1).Lo, .int .u64 (ref11_cut a3 a1).Hi])]) (by kernel_rfl) ?_
 refine WR.eqF (F' := [(0, .int .u8 a0), (1, .bool a1), (8, pt g22 0), (9, pt g172 0), (10, pt g178 0), (33, .agg #[.int .u64 (ref11_cut a2 a1).Lo, .int .u64 (ref11_cut a2 a1).Hi]), (36, .agg #[.int .u64 (ref11_cut a3 a1).Lo, .int .u64 (ref11_cut a3 a1).Hi])]) (by rw [hp171, hp177]) ?_
 refine WR.store (t := 25) (o := 0) (v := .agg #[.int .u64 (ref11_cut a2 a1).Lo, .int .u64 (ref11_cut a2 a1).Hi]) hb173 (by kernel_rfl) #[.int .u64 (ref11_cut a2 a1).Lo, .int .u64 (ref11_cut a2 a1).Hi] (by kernel_rfl) ?_
 intro w186 hb187 hc188
 have hz190 := hc188.size
 have hC189 := hC169.step1 hc188 (by omega)
 have hb194 := hb179.chg1 hc188 (by omega)
 refine WR.store (t := 25) (o := 0) (v := .agg #[.int .u64 (ref11_cut a3 a1).Lo, .int .u64 (ref11_cut a3 a1).Hi]) hb194 (by kernel_rfl) #[.int .u64 (ref11_cut a3 a1).Lo, .int .u64 (ref11_cut a3 a1).Hi] (by kernel_rfl) ?_
 intro w191 hb192 hc193
 have hz196 := hc193.size
 have hC195 := hC189.step1 hc193 (by omega)
 refine WR.fin (by kernel_rfl) ?_
 refine go hK78 ?_
 refine CW.seq fun K197 hK197 => ?_
 refine CW.region ?_
 refine WR.load (dst := some 37) (t := 25) (o := 0) hb192 (by kernel_rfl) (.agg #[.int .u64 (ref11_cut a3 a1).Lo, .int .u64 (ref11_cut a3 a1).Hi]) (by kernel_rfl) ?_
 refine WR.alloc (dst := some 11) (e := 25) (by kernel_rfl) #[.int .u64 0, .int .u64 0] (by kernel_rfl) ?_
 intro g198 w199 hN200
 have hf202 : w.heap.size ≤ g198 := Nat.le_trans hC195.size hN200.fresh
 have hfr204 := hN200.fresh
 have hc203 := hN200.chg
 have hz206 := hc203.size
 have hC205 := hC195.pure hc203
 have hb201 := hN200.blk
 have hg207 := hb201.lt
 refine WR.store (t := 25) (o := 0) (v := .agg #[.int .u64 (ref11_cut a3 a1).Lo, .int .u64 (ref11_cut a3 a1).Hi]) hb201 (by kernel_rfl) #[.int .u64 (ref11_cut a3 a1).Lo, .int .u64 (ref11_cut a3 a1).Hi] (by kernel_rfl) ?_
 intro w208 hb209 hc210
 have hz212 := hc210.size
 have hC211 := hC205.step1 hc210 (by omega)
 refine WR.batch 1 [(0, .int .u8 a0), (1, .bool a1), (8, pt g22 0), (9, pt g172 0), (10, pt g178 0), (11, pt g198 0), (12, .bool true)] (by kernel_rfl) ?_
 refine WR.fin (by kernel_rfl) ?_
 refine go hK197 ?_
 refine CW.seq fun K213 hK213 => ?_
 refine CW.seq fun K214 hK214 => ?_
 refine CW.region ?_
 refine WR.batch 1 [(0, .int .u8 a0), (1, .bool a1), (8, pt g22 0), (9, pt g172 0), (10, pt g178 0), (11, pt g198 0), (12, .bool true), (38, .int .u8 a0)] (by kernel_rfl) ?_
 refine WR.fin (by kernel_rfl) ?_
 refine go hK214 ?_
 refine CW.join hK213 (fun F' w' => ∃ (v100 : Bool) (v101 : Int) (v102 : Int), F' = [(1, .bool a1), (8, pt g22 0), (11, pt g198 0), (12, .bool v100)] ∧ Chg [] w w' ∧ Blk w' g2 #[.int .u64 a2.Lo, .int .u64 a2.Hi] 25 ∧ Blk w' g12 #[.int .u64 a3.Lo, .int .u64 a3.Hi] 25 ∧ Blk w' g22 #[.int .u64 0, .int .u64 0] 25 ∧ Blk w' g172 #[.int .u64 (ref11_cut a2 a1).Lo, .int .u64 (ref11_cut a2 a1).Hi] 25 ∧ Blk w' g178 #[.int .u64 (ref11_cut a3 a1).Lo, .int .u64 (ref11_cut a3 a1).Hi] 25 ∧ Blk w' g198 #[.int .u64 v101, .int .u64 v102] 25 ∧ (IU64 v101) ∧ (IU64 v102) ∧ (ref11_Do a0 a1 a2 a3) = ref11_Do_J0 a0 a1 a2 a3 v100 v101 v102) ?_ ?_
 ·
  refine CW.block ?_
  refine CW.seq fun K224 hK224 => ?_
  refine CW.seq fun K225 hK225 => ?_
  refine CW.region ?_
  refine WR.batch 2 [(0, .int .u8 a0), (1, .bool a1), (8, pt g22 0), (9, pt g172 0), (10, pt g178 0), (11, pt g198 0), (12, .bool true), (38, .int .u8 a0), (39, .bool (a0 == (1 : Int)))] (by kernel_rfl) ?_
  refine WR.fin (by kernel_rfl) ?_
  refine go hK225 ?_
  refine CW.join hK224 (fun F' w' => ∃ (v200 : Bool), F' = [(0, .int .u8 a0), (1, .bool a1), (8, pt g22 0), (9, pt g172 0), (10, pt g178 0), (11, pt g198 0), (12, .bool true), (38, .int .u8 a0), (39, .bool v200)] ∧ Chg [] w w' ∧ Blk w' g2 #[.int .u64 a2.Lo, .int .u64 a2.Hi] 25 ∧ Blk w' g12 #[.int .u64 a3.Lo, .int .u64 a3.Hi] 25 ∧ Blk w' g22 #[.int .u64 0, .int .u64 0] 25 ∧ Blk w' g172 #[.int .u64 (ref11_cut a2 a1).Lo, .int .u64 (ref11_cut a2 a1).Hi] 25 ∧ Blk w' g178 #[.int .u64 (ref11_cut a3 a1).Lo, .int .u64 (ref11_cut a3 a1).Hi] 25 ∧ Blk w' g198 #[.int .u64 (ref11_cut a3 a1).Lo, .int .u64 (ref11_cut a3 a1).Hi] 25 ∧ (ref11_Do a0 a1 a2 a3) = ref11_Do_J1 a0 a1 a2 a3 v200) ?_ ?_
  ·
   refine CW.cond ((a0 == (1 : Int))) (by kernel_rfl) (fun ht235 => ?_) (fun ht235 => ?_)
   ·
    have hs236 := ifT ht235 hs77
    refine CW.keep [0, 1, 8, 9, 10, 11, 12, 38, 39] (F' := [(0, .int .u8 a0), (1, .bool a1), (8, pt g22 0), (9, pt g172 0), (10, pt g178 0), (11, pt g198 0), (12, .bool true), (38, .int .u8 a0), (39, .bool (a0 == (1 : Int)))]) (by kernel_rfl) ?_
    refine CW.eqF (F' := [(0, .int .u8 a0), (1, .bool a1), (8, pt g22 0), (9, pt g172 0), (10, pt g178 0), (11, pt g198 0), (12, .bool true), (38, .int .u8 a0), (39, .bool true)]) (by rw [ht235]) ?_
    have hk237 := ht235
    replace ht235 : a0 = (1 : Int) := (bEqT ht235)
    refine CW.skip ?_
    have hb238 := ((((((((hb5.pure hc17).pure hc27).pure hc44).pure hc57).pure hW165).chg1 hc188 (by omega)).chg1 hc193 (by omega)).pure hc203).chg1 hc210 (by omega)
    have hb239 := (((((((hb15.pure hc27).pure hc44).pure hc57).pure hW165).chg1 hc188 (by omega)).chg1 hc193 (by omega)).pure hc203).chg1 hc210 (by omega)
    have hb240 := ((((((hb25.pure hc44).pure hc57).pure hW165).chg1 hc188 (by omega)).chg1 hc193 (by omega)).pure hc203).chg1 hc210 (by omega)
    have hb241 := ((hb187.chg1 hc193 (by omega)).pure hc203).chg1 hc210 (by omega)
    have hb242 := (hb192.pure hc203).chg1 hc210 (by omega)
    exact fun _ ha => ⟨_, ha.keep [0, 1, 8, 9, 10, 11, 12, 38, 39] (F' := [(0, .int .u8 a0), (1, .bool a1), (8, pt g22 0), (9, pt g172 0), (10, pt g178 0), (11, pt g198 0), (12, .bool true), (38, .int .u8 a0), (39, .bool true)]) (by kernel_rfl), true, rfl, hC211, hb238, hb239, hb240, hb241, hb242, hb209, hs236⟩
   have hs243 := ifF ht235 hs77
   replace ht235 : a0 ≠ (1 : Int) := (bEqF ht235)
   refine CW.seq fun K244 hK244 => ?_
   refine CW.region ?_
   refine WR.batch 2 [(0, .int .u8 a0), (1, .bool a1), (8, pt g22 0), (9, pt g172 0), (10, pt g178 0), (11, pt g198 0), (12, .bool true), (38, .int .u8 a0), (39, .bool (a0 == (2 : Int)))] (by kernel_rfl) ?_
   refine WR.fin (by kernel_rfl) ?_
   refine go hK244 ?_
   refine CW.cond ((a0 == (2 : Int))) (by kernel_rfl) (fun ht245 => ?_) (fun ht245 => ?_)
   ·
    have hs246 := ifT ht245 hs243
    refine CW.keep [0, 1, 8, 9, 10, 11, 12, 38, 39] (F' := [(0, .int .u8 a0), (1, .bool a1), (8, pt g22 0), (9, pt g172 0), (10, pt g178 0), (11, pt g198 0), (12, .bool true), (38, .int .u8 a0), (39, .bool (a0 == (2 : Int)))]) (by kernel_rfl) ?_
    refine CW.eqF (F' := [(0, .int .u8 a0), (1, .bool a1), (8, pt g22 0), (9, pt g172 0), (10, pt g178 0), (11, pt g198 0), (12, .bool true), (38, .int .u8 a0), (39, .bool true)]) (by rw [ht245]) ?_
    have hk247 := ht245
    replace ht245 : a0 = (2 : Int) := (bEqT ht245)
    refine CW.skip ?_
    have hb248 := ((((((((hb5.pure hc17).pure hc27).pure hc44).pure hc57).pure hW165).chg1 hc188 (by omega)).chg1 hc193 (by omega)).pure hc203).chg1 hc210 (by omega)
    have hb249 := (((((((hb15.pure hc27).pure hc44).pure hc57).pure hW165).chg1 hc188 (by omega)).chg1 hc193 (by omega)).pure hc203).chg1 hc210 (by omega)
    have hb250 := ((((((hb25.pure hc44).pure hc57).pure hW165).chg1 hc188 (by omega)).chg1 hc193 (by omega)).pure hc203).chg1 hc210 (by omega)
    have hb251 := ((hb187.chg1 hc193 (by omega)).pure hc203).chg1 hc210 (by omega)
    have hb252 := (hb192.pure hc203).chg1 hc210 (by omega)
    exact fun _ ha => ⟨_, ha.keep [0, 1, 8, 9, 10, 11, 12, 38, 39] (F' := [(0, .int .u8 a0), (1, .bool a1), (8, pt g22 0), (9, pt g172 0), (10, pt g178 0), (11, pt g198 0), (12, .bool true), (38, .int .u8 a0), (39, .bool true)]) (by kernel_rfl), true, rfl, hC211, hb248, hb249, hb250, hb251, hb252, hb209, hs246⟩
   have hs253 := ifF ht245 hs243
   replace ht245 : a0 ≠ (2 : Int) := (bEqF ht245)
   refine CW.seq fun K254 hK254 => ?_
   refine CW.region ?_
   refine WR.batch 2 [(0, .int .u8 a0), (1, .bool a1), (8, pt g22 0), (9, pt g172 0), (10, pt g178 0), (11, pt g198 0), (12, .bool true), (38, .int .u8 a0), (39, .bool (a0 == (3 : Int)))] (by kernel_rfl) ?_
   refine WR.fin (by kernel_rfl) ?_
   refine go hK254 ?_
   refine CW.cond ((a0 == (3 : Int))) (by kernel_rfl) (fun ht255 => ?_) (fun ht255 => ?_)
   ·
    have hs256 := ifT ht255 hs253
    refine CW.keep [0, 1, 8, 9, 10, 11, 12, 38, 39] (F' := [(0, .int .u8 a0), (1, .bool a1), (8, pt g22 0), (9, pt g172 0), (10, pt g178 0), (11, pt g198 0), (12, .bool true), (38, .int .u8 a0), (39, .bool (a0 == (3 : Int)))]) (by kernel_rfl) ?_
    refine CW.eqF (F' := [(0, .int .u8 a0), (1, .bool a1), (8, pt g22 0), (9, pt g172 0), (10, pt g178 0), (11, pt g198 0), (12, .bool true), (38, .int .u8 a0), (39, .bool true)]) (by rw [ht255]) ?_
    have hk257 := ht255
    replace ht255 : a0 = (3 : Int) := (bEqT ht255)
    refine CW.skip ?_
    have hb258 := ((((((((hb5.pure hc17).pure hc27).pure hc44).pure hc57).pure hW165).chg1 hc188 (by omega)).chg1 hc193 (by omega)).pure hc203).chg1 hc210 (by omega)
    have hb259 := (((((((hb15.pure hc27).pure hc44).pure hc57).pure hW165).chg1 hc188 (by omega)).chg1 hc193 (by omega)).pure hc203).chg1 hc210 (by omega)
    have hb260 := ((((((hb25.pure hc44).pure hc57).pure hW165).chg1 hc188 (by omega)).chg1 hc193 (by omega)).pure hc203).chg1 hc210 (by omega)
    have hb261 := ((hb187.chg1 hc193 (by omega)).pure hc203).chg1 hc210 (by omega)
    have hb262 := (hb192.pure hc203).chg1 hc210 (by omega)
    exact fun _ ha => ⟨_, ha.keep [0, 1, 8, 9, 10, 11, 12, 38, 39] (F' := [(0, .int .u8 a0), (1, .bool a1), (8, pt g22 0), (9, pt g172 0), (10, pt g178 0), (11, pt g198 0), (12, .bool true), (38, .int .u8 a0), (39, .bool true)]) (by kernel_rfl), true, rfl, hC211, hb258, hb259, hb260, hb261, hb262, hb209, hs256⟩
   have hs263 := ifF ht255 hs253
   replace ht255 : a0 ≠ (3 : Int) := (bEqF ht255)
   refine CW.region ?_
   refine WR.batch 2 [(0, .int .u8 a0), (1, .bool a1), (8, pt g22 0), (9, pt g172 0), (10, pt g178 0), (11, pt g198 0), (12, .bool true), (38, .int .u8 a0), (39, .bool (a0 == (13 : Int)))] (by kernel_rfl) ?_
   refine WR.fin (by kernel_rfl) ?_
   have hb264 := ((((((((hb5.pure hc17).pure hc27).pure hc44).pure hc57).pure hW165).chg1 hc188 (by omega)).chg1 hc193 (by omega)).pure hc203).chg1 hc210 (by omega)
   have hb265 := (((((((hb15.pure hc27).pure hc44).pure hc57).pure hW165).chg1 hc188 (by omega)).chg1 hc193 (by omega)).pure hc203).chg1 hc210 (by omega)
   have hb266 := ((((((hb25.pure hc44).pure hc57).pure hW165).chg1 hc188 (by omega)).chg1 hc193 (by omega)).pure hc203).chg1 hc210 (by omega)
   have hb267 := ((hb187.chg1 hc193 (by omega)).pure hc203).chg1 hc210 (by omega)
   have hb268 := (hb192.pure hc203).chg1 hc210 (by omega)
   exact fun _ ha => ⟨_, ha.keep [0, 1, 8, 9, 10, 11, 12, 38, 39] (F' := [(0, .int .u8 a0), (1, .bool a1), (8, pt g22 0), (9, pt g172 0), (10, pt g178 0), (11, pt g198 0), (12, .bool true), (38, .int .u8 a0), (39, .bool (a0 == (13 : Int)))]) (by kernel_rfl), (a0 == (13 : Int)), rfl, hC211, hb264, hb265, hb266, hb267, hb268, hb209, hs263⟩
  rintro _ w228 ⟨v200, rfl, hC226, hb229, hb230, hb231, hb232, hb233, hb234, hsj227⟩
  have hz269 := hC226.size
  have hs270 := hsj227.trans (ref11_Do_J1.eq_1 _ _ _ _ _)
  have hg271 := hb229.lt
  have hg272 := hb230.lt
  have hg273 := hb231.lt
  have hg274 := hb232.lt
  have hg275 := hb233.lt
  have hg276 := hb234.lt
  refine CW.cond (v200) (by kernel_rfl) (fun ht277 => ?_) (fun ht277 => ?_)
  ·
   have hs278 := ifT ht277 hs270
   refine CW.keep [0, 1, 8, 9, 10, 11] (F' := [(0, .int .u8 a0), (1, .bool a1), (8, pt g22 0), (9, pt g172 0), (10, pt g178 0), (11, pt g198 0)]) (by kernel_rfl) ?_
   refine CW.regionG 10 [some (.int .u8 a0), some (.bool a1), some (.int .u64 (ref11_most a1)), some (.agg #[.int .u64 (ref11_cut a2 a1).Lo, .int .u64 (ref11_cut a2 a1).Hi]), some (.agg #[.int .u64 (ref11_cut a3 a1).Lo, .int .u64 (ref11_cut a3 a1).Hi]), some (.tuple #[.agg #[.int .u64 (ref11_sums a0 (ref11_most a1) (ref11_cut a2 a1) (ref11_cut a3 a1)).1.Lo, .int .u64 (ref11_sums a0 (ref11_most a1) (ref11_cut a2 a1) (ref11_cut a3 a1)).1.Hi], .bool (ref11_sums a0 (ref11_most a1) (ref11_cut a2 a1) (ref11_cut a3 a1)).2]), some (.tuple #[.agg #[.int .u64 (ref11_sums a0 (ref11_most a1) (ref11_cut a2 a1) (ref11_cut a3 a1)).1.Lo, .int .u64 (ref11_sums a0 (ref11_most a1) (ref11_cut a2 a1) (ref11_cut a3 a1)).1.Hi], .bool (ref11_sums a0 (ref11_most a1) (ref11_cut a2 a1) (ref11_cut a3 a1)).2]), some (.agg #[.int .u64 (ref11_sums a0 (ref11_most a1) (ref11_cut a2 a1) (ref11_cut a3 a1)).1.Lo, .int .u64 (ref11_sums a0 (ref11_most a1) (ref11_cut a2 a1) (ref11_cut a3 a1)).1.Hi]), some (.bool (ref11_sums a0 (ref11_most a1) (ref11_cut a2 a1) (ref11_cut a3 a1)).2), none] (fun u => [(45, .int .u8 a0), (46, .bool a1), (47, .int .u64 (ref11_most a1)), (48, .agg #[.int .u64 (ref11_cut a2 a1).Lo, .int .u64 (ref11_cut a2 a1).Hi]), (49, .agg #[.int .u64 (ref11_cut a3 a1).Lo, .int .u64 (ref11_cut a3 a1).Hi]), (50, .tuple #[.agg #[.int .u64 (ref11_sums a0 (ref11_most a1) (ref11_cut a2 a1) (ref11_cut a3 a1)).1.Lo, .int .u64 (ref11_sums a0 (ref11_most a1) (ref11_cut a2 a1) (ref11_cut a3 a1)).1.Hi], .bool (ref11_sums a0 (ref11_most a1) (ref11_cut a2 a1) (ref11_cut a3 a1)).2]), (44, .tuple #[.agg #[.int .u64 (ref11_sums a0 (ref11_most a1) (ref11_cut a2 a1) (ref11_cut a3 a1)).1.Lo, .int .u64 (ref11_sums a0 (ref11_most a1) (ref11_cut a2 a1) (ref11_cut a3 a1)).1.Hi], .bool (ref11_sums a0 (ref11_most a1) (ref11_cut a2 a1) (ref11_cut a3 a1)).2]), (51, .agg #[.int .u64 (ref11_sums a0 (ref11_most a1) (ref11_cut a2 a1) (ref11_cut a3 a1)).1.Lo, .int .u64 (ref11_sums a0 (ref11_most a1) (ref11_cut a2 a1) (ref11_cut a3 a1)).1.Hi]), (52, .bool (ref11_sums a0 (ref11_most a1) (ref11_cut a2 a1) (ref11_cut a3 a1)).2), (0, .int .u8 a0), (1, .bool a1), (8, pt g22 0), (9, pt g172 0), (10, pt g178 0), (11, pt g198 0)]) (fun _ => by kernel_rfl) (by kernel_rfl) [(9, g198)] (fun i w' => match i with | 0 => True | 1 => True | 2 => True | 3 => True | 4 => True | 5 => True | 6 => True | 7 => True | 8 => True | 9 => Blk w' g198 #[.int .u64 (ref11_cut a3 a1).Lo, .int .u64 (ref11_cut a3 a1).Hi] 25 | _ => True) (fun j => match j with | 0 => trivial | 1 => trivial | 2 => trivial | 3 => trivial | 4 => trivial | 5 => trivial | 6 => trivial | 7 => trivial | 8 => trivial | 9 => hb234.pure (Chg.drew w228) | j + 10 => trivial) ?_ [] [] (by kernel_rfl) (fun w' => Chg [g198] w228 w') (fun i v w' => match i with | 0 => True | 1 => True | 2 => True | 3 => True | 4 => True | 5 => True | 6 => True | 7 => True | 8 => True | 9 => Blk w' g198 #[.int .u64 (ref11_sums a0 (ref11_most a1) (ref11_cut a2 a1) (ref11_cut a3 a1)).1.Lo, .int .u64 (ref11_sums a0 (ref11_most a1) (ref11_cut a2 a1) (ref11_cut a3 a1)).1.Hi] 25 | _ => True) (fun j x w hj h => absurd hj (by simp)) (by kernel_rfl) (by kernel_rfl) (by kernel_rfl) (by kernel_rfl) ((Chg.drew w228).weak (by simp)) (fun _ _ _ h h' => h.step h' (fun t ht => .inl (cL_sub t ht))) ?_ (obsG_batch 2 0 8 (fun _ _ => by kernel_rfl) (by kernel_rfl) ⟨?_, ⟨?_, ⟨?_, ⟨?_, (obsG_batch 3 6 1 (fun _ _ => by kernel_rfl) (by kernel_rfl) ⟨?_, trivial⟩)⟩⟩⟩⟩) ?_
   ·
    intro i j w1 w2 hij h hc
    match j, hij, h with
    | 0, hij, h => exact trivial
    | 1, hij, h => exact trivial
    | 2, hij, h => exact trivial
    | 3, hij, h => exact trivial
    | 4, hij, h => exact trivial
    | 5, hij, h => exact trivial
    | 6, hij, h => exact trivial
    | 7, hij, h => exact trivial
    | 8, hij, h => exact trivial
    | 9, hij, h => exact h.chg hc (cL_not (by intro p hp e; simp only [List.mem_cons, List.not_mem_nil, or_false] at hp; rcases hp with rfl <;> (simp only at e ⊢; omega)))
    | n + 10, _, _ => trivial
   ·
    intro i j v w1 w2 hij h hc
    match j, hij, h with
    | 0, _, _ => trivial
    | 1, _, _ => trivial
    | 2, _, _ => trivial
    | 3, _, _ => trivial
    | 4, _, _ => trivial
    | 5, _, _ => trivial
    | 6, _, _ => trivial
    | 7, _, _ => trivial
    | 8, _, _ => trivial
    | 9, hij, h => exact h.chg hc (cL_not (by intro p hp e; simp only [List.mem_cons, List.not_mem_nil, or_false] at hp; rcases hp with rfl <;> (simp only at e ⊢; omega)))
    | n + 10, _, _ => trivial
   ·
    intro u279 w280 hW281 hPr284 hp282 hal283
    have hz286 := hW281.size
    have hC285 := hC226.step1 hW281 (by omega)
    have hb287 : Blk w280 g198 #[.int .u64 (ref11_cut a3 a1).Lo, .int .u64 (ref11_cut a3 a1).Hi] 25 := hPr284 9 (.inr (.one (by kernel_rfl)))
    have hx288 : IU64 (ref11_cut a2 a1).Lo ∧ IU64 (ref11_cut a2 a1).Hi := ref11_cut_ok a2 a1 ⟨(by omega), (by omega)⟩ 
    have hx289 : IU64 (ref11_cut a3 a1).Lo ∧ IU64 (ref11_cut a3 a1).Hi := ref11_cut_ok a3 a1 ⟨(by omega), (by omega)⟩ 
    have hx290 : IU64 (ref11_most a1) := ref11_most_ok a1 
    have hx291 : IU64 (ref11_sums a0 (ref11_most a1) (ref11_cut a2 a1) (ref11_cut a3 a1)).1.Lo ∧ IU64 (ref11_sums a0 (ref11_most a1) (ref11_cut a2 a1) (ref11_cut a3 a1)).1.Hi := ref11_sums_ok a0 (ref11_most a1) (ref11_cut a2 a1) (ref11_cut a3 a1) (by omega) (by omega) ⟨(by omega), (by omega)⟩ ⟨(by omega), (by omega)⟩ 
    have hx292 : IU64 (ref11_most a1) := ref11_most_ok a1 
    refine WR.call (dst := some 47) (by kernel_rfl) (ref11_most_any a1 w280  ) ?_
    rintro _ w293 hc294 rfl
    have hz296 := hc294.size
    have hC295 := hC285.pure hc294
    refine WR.fin (by kernel_rfl) ?_
    exact fun _ ha => ⟨hc294, _, ha, ⟨⟨fun h => absurd h (by decide), alNone (by decide)⟩, rfl⟩⟩
   ·
    intro u297 w298 hW299 hPr302 hp300 hal301
    have hz304 := hW299.size
    have hC303 := hC226.step1 hW299 (by omega)
    have hb305 : Blk w298 g198 #[.int .u64 (ref11_cut a3 a1).Lo, .int .u64 (ref11_cut a3 a1).Hi] 25 := hPr302 9 (.inr (.one (by kernel_rfl)))
    have hb306 := hb232.chg1 hW299 (by omega)
    refine WR.load (dst := some 48) (t := 25) (o := 0) hb306 (by kernel_rfl) (.agg #[.int .u64 (ref11_cut a2 a1).Lo, .int .u64 (ref11_cut a2 a1).Hi]) (by kernel_rfl) ?_
    refine WR.fin (by kernel_rfl) ?_
    exact fun _ ha => ⟨Chg.refl _ _, _, ha, ⟨⟨fun h => absurd h (by decide), alNone (by decide)⟩, rfl⟩⟩
   ·
    intro u307 w308 hW309 hPr312 hp310 hal311
    have hz314 := hW309.size
    have hC313 := hC226.step1 hW309 (by omega)
    have hb315 : Blk w308 g198 #[.int .u64 (ref11_cut a3 a1).Lo, .int .u64 (ref11_cut a3 a1).Hi] 25 := hPr312 9 (.inr (.one (by kernel_rfl)))
    have hb316 := hb233.chg1 hW309 (by omega)
    refine WR.load (dst := some 49) (t := 25) (o := 0) hb316 (by kernel_rfl) (.agg #[.int .u64 (ref11_cut a3 a1).Lo, .int .u64 (ref11_cut a3 a1).Hi]) (by kernel_rfl) ?_
    refine WR.fin (by kernel_rfl) ?_
    exact fun _ ha => ⟨Chg.refl _ _, _, ha, ⟨⟨fun h => absurd h (by decide), alNone (by decide)⟩, rfl⟩⟩
   ·
    intro u317 w318 hW319 hPr322 hp320 hal321
    have hz324 := hW319.size
    have hC323 := hC226.step1 hW319 (by omega)
    have hb325 : Blk w318 g198 #[.int .u64 (ref11_cut a3 a1).Lo, .int .u64 (ref11_cut a3 a1).Hi] 25 := hPr322 9 (.inr (.one (by kernel_rfl)))
    have hx326 : IU64 (ref11_cut a2 a1).Lo ∧ IU64 (ref11_cut a2 a1).Hi := ref11_cut_ok a2 a1 ⟨(by omega), (by omega)⟩ 
    have hx327 : IU64 (ref11_cut a3 a1).Lo ∧ IU64 (ref11_cut a3 a1).Hi := ref11_cut_ok a3 a1 ⟨(by omega), (by omega)⟩ 
    have hx328 : IU64 (ref11_most a1) := ref11_most_ok a1 
    have hx329 : IU64 (ref11_sums a0 (ref11_most a1) (ref11_cut a2 a1) (ref11_cut a3 a1)).1.Lo ∧ IU64 (ref11_sums a0 (ref11_most a1) (ref11_cut a2 a1) (ref11_cut a3 a1)).1.Hi := ref11_sums_ok a0 (ref11_most a1) (ref11_cut a2 a1) (ref11_cut a3 a1) (by omega) (by omega) ⟨(by omega), (by omega)⟩ ⟨(by omega), (by omega)⟩ 
    have hx330 : IU64 (ref11_sums a0 (ref11_most a1) (ref11_cut a2 a1) (ref11_cut a3 a1)).1.Lo ∧ IU64 (ref11_sums a0 (ref11_most a1) (ref11_cut a2 a1) (ref11_cut a3 a1)).1.Hi := ref11_sums_ok a0 (ref11_most a1) (ref11_cut a2 a1) (ref11_cut a3 a1) (by omega) (by omega) ⟨(by omega), (by omega)⟩ ⟨(by omega), (by omega)⟩ 
    refine WR.call (dst := some 50) (by kernel_rfl) (ref11_sums_any a0 (ref11_most a1) (ref11_cut a2 a1) (ref11_cut a3 a1) w318  (by omega) (by omega) ⟨(by omega), (by omega)⟩ ⟨(by omega), (by omega)⟩ ) ?_
    rintro _ w331 hc332 rfl
    have hz334 := hc332.size
    have hC333 := hC323.pure hc332
    refine WR.fin (by kernel_rfl) ?_
    exact fun _ ha => ⟨hc332, _, ha, ⟨⟨fun h => absurd h (by decide), alNone (by decide)⟩, rfl⟩⟩
   ·
    intro u335 w336 hW337 hPr340 hp338 hal339
    have hz342 := hW337.size
    have hC341 := hC226.step1 hW337 (by omega)
    have hb343 : Blk w336 g198 #[.int .u64 (ref11_cut a3 a1).Lo, .int .u64 (ref11_cut a3 a1).Hi] 25 := hPr340 9 (.inl rfl)
    refine WR.store (t := 25) (o := 0) (v := .agg #[.int .u64 (ref11_sums a0 (ref11_most a1) (ref11_cut a2 a1) (ref11_cut a3 a1)).1.Lo, .int .u64 (ref11_sums a0 (ref11_most a1) (ref11_cut a2 a1) (ref11_cut a3 a1)).1.Hi]) hb343 (by kernel_rfl) #[.int .u64 (ref11_sums a0 (ref11_most a1) (ref11_cut a2 a1) (ref11_cut a3 a1)).1.Lo, .int .u64 (ref11_sums a0 (ref11_most a1) (ref11_cut a2 a1) (ref11_cut a3 a1)).1.Hi] (by kernel_rfl) ?_
    intro w344 hb345 hc346
    have hz348 := hc346.size
    have hC347 := hC341.step1 hc346 (by omega)
    refine WR.fin (by kernel_rfl) ?_
    exact fun _ ha => ⟨hc346, undef, ha, ⟨⟨fun h => absurd h (by decide), alNone (by decide)⟩, hb345⟩⟩
   intro u349 w350 hW351 hr352 _ _
   have hz356 := hW351.size
   have hC355 := hC226.step1 hW351 (by omega)
   have hp357 : Blk w350 g198 #[.int .u64 (ref11_sums a0 (ref11_most a1) (ref11_cut a2 a1) (ref11_cut a3 a1)).1.Lo, .int .u64 (ref11_sums a0 (ref11_most a1) (ref11_cut a2 a1) (ref11_cut a3 a1)).1.Hi] 25 := hr352 9 (by omega) (by kernel_rfl)
   have hx358 : IU64 (ref11_cut a2 a1).Lo ∧ IU64 (ref11_cut a2 a1).Hi := ref11_cut_ok a2 a1 ⟨(by omega), (by omega)⟩ 
   have hx359 : IU64 (ref11_cut a3 a1).Lo ∧ IU64 (ref11_cut a3 a1).Hi := ref11_cut_ok a3 a1 ⟨(by omega), (by omega)⟩ 
   have hx360 : IU64 (ref11_most a1) := ref11_most_ok a1 
   have hx361 : IU64 (ref11_sums a0 (ref11_most a1) (ref11_cut a2 a1) (ref11_cut a3 a1)).1.Lo ∧ IU64 (ref11_sums a0 (ref11_most a1) (ref11_cut a2 a1) (ref11_cut a3 a1)).1.Hi := ref11_sums_ok a0 (ref11_most a1) (ref11_cut a2 a1) (ref11_cut a3 a1) (by omega) (by omega) ⟨(by omega), (by omega)⟩ ⟨(by omega), (by omega)⟩ 
   refine WR.keep [1, 8, 11, 52] (F' := [(1, .bool a1), (8, pt g22 0), (11, pt g198 0), (52, .bool (ref11_sums a0 (ref11_most a1) (ref11_cut a2 a1) (ref11_cut a3 a1)).2)]) (by kernel_rfl) ?_
   refine WR.batch 1 [(1, .bool a1), (8, pt g22 0), (11, pt g198 0), (12, .bool (ref11_sums a0 (ref11_most a1) (ref11_cut a2 a1) (ref11_cut a3 a1)).2)] (by kernel_rfl) ?_
   refine WR.fin (by kernel_rfl) ?_
   have hb362 := hb229.chg1 hW351 (by omega)
   have hb363 := hb230.chg1 hW351 (by omega)
   have hb364 := hb231.chg1 hW351 (by omega)
   have hb365 := hb232.chg1 hW351 (by omega)
   have hb366 := hb233.chg1 hW351 (by omega)
   exact fun _ ha => ⟨_, ha.keep [1, 8, 11, 12] (F' := [(1, .bool a1), (8, pt g22 0), (11, pt g198 0), (12, .bool (ref11_sums a0 (ref11_most a1) (ref11_cut a2 a1) (ref11_cut a3 a1)).2)]) (by kernel_rfl), (ref11_sums a0 (ref11_most a1) (ref11_cut a2 a1) (ref11_cut a3 a1)).2, (ref11_sums a0 (ref11_most a1) (ref11_cut a2 a1) (ref11_cut a3 a1)).1.Lo, (ref11_sums a0 (ref11_most a1) (ref11_cut a2 a1) (ref11_cut a3 a1)).1.Hi, rfl, hC355, hb362, hb363, hb364, hb365, hb366, hp357, (by have : IU64 (ref11_cut a2 a1).Lo ∧ IU64 (ref11_cut a2 a1).Hi := ref11_cut_ok a2 a1 ⟨(by omega), (by omega)⟩ ; have : IU64 (ref11_cut a3 a1).Lo ∧ IU64 (ref11_cut a3 a1).Hi := ref11_cut_ok a3 a1 ⟨(by omega), (by omega)⟩ ; have : IU64 (ref11_most a1) := ref11_most_ok a1 ; have : IU64 (ref11_sums a0 (ref11_most a1) (ref11_cut a2 a1) (ref11_cut a3 a1)).1.Lo ∧ IU64 (ref11_sums a0 (ref11_most a1) (ref11_cut a2 a1) (ref11_cut a3 a1)).1.Hi := ref11_sums_ok a0 (ref11_most a1) (ref11_cut a2 a1) (ref11_cut a3 a1) (by omega) (by omega) ⟨(by omega), (by omega)⟩ ⟨(by omega), (by omega)⟩ ; exact (by omega)), (by have : IU64 (ref11_cut a2 a1).Lo ∧ IU64 (ref11_cut a2 a1).Hi := ref11_cut_ok a2 a1 ⟨(by omega), (by omega)⟩ ; have : IU64 (ref11_cut a3 a1).Lo ∧ IU64 (ref11_cut a3 a1).Hi := ref11_cut_ok a3 a1 ⟨(by omega), (by omega)⟩ ; have : IU64 (ref11_most a1) := ref11_most_ok a1 ; have : IU64 (ref11_sums a0 (ref11_most a1) (ref11_cut a2 a1) (ref11_cut a3 a1)).1.Lo ∧ IU64 (ref11_sums a0 (ref11_most a1) (ref11_cut a2 a1) (ref11_cut a3 a1)).1.Hi := ref11_sums_ok a0 (ref11_most a1) (ref11_cut a2 a1) (ref11_cut a3 a1) (by omega) (by omega) ⟨(by omega), (by omega)⟩ ⟨(by omega), (by omega)⟩ ; exact (by omega)), hs278⟩
  have hs367 := ifF ht277 hs270
  refine CW.seq fun K368 hK368 => ?_
  refine CW.seq fun K369 hK369 => ?_
  refine CW.region ?_
  refine WR.batch 2 [(0, .int .u8 a0), (1, .bool a1), (8, pt g22 0), (9, pt g172 0), (10, pt g178 0), (11, pt g198 0), (12, .bool true), (38, .int .u8 a0), (53, .bool (a0 == (4 : Int)))] (by kernel_rfl) ?_
  refine WR.fin (by kernel_rfl) ?_
  refine go hK369 ?_
  refine CW.join hK368 (fun F' w' => ∃ (v300 : Bool), F' = [(0, .int .u8 a0), (1, .bool a1), (8, pt g22 0), (9, pt g172 0), (10, pt g178 0), (11, pt g198 0), (12, .bool true), (38, .int .u8 a0), (53, .bool v300)] ∧ Chg [] w w' ∧ Blk w' g2 #[.int .u64 a2.Lo, .int .u64 a2.Hi] 25 ∧ Blk w' g12 #[.int .u64 a3.Lo, .int .u64 a3.Hi] 25 ∧ Blk w' g22 #[.int .u64 0, .int .u64 0] 25 ∧ Blk w' g172 #[.int .u64 (ref11_cut a2 a1).Lo, .int .u64 (ref11_cut a2 a1).Hi] 25 ∧ Blk w' g178 #[.int .u64 (ref11_cut a3 a1).Lo, .int .u64 (ref11_cut a3 a1).Hi] 25 ∧ Blk w' g198 #[.int .u64 (ref11_cut a3 a1).Lo, .int .u64 (ref11_cut a3 a1).Hi] 25 ∧ (ref11_Do a0 a1 a2 a3) = ref11_Do_J2 a0 a1 a2 a3 v200 v300) ?_ ?_
  ·
   refine CW.cond ((a0 == (4 : Int))) (by kernel_rfl) (fun ht379 => ?_) (fun ht379 => ?_)
   ·
    have hs380 := ifT ht379 hs367
    refine CW.keep [0, 1, 8, 9, 10, 11, 12, 38, 53] (F' := [(0, .int .u8 a0), (1, .bool a1), (8, pt g22 0), (9, pt g172 0), (10, pt g178 0), (11, pt g198 0), (12, .bool true), (38, .int .u8 a0), (53, .bool (a0 == (4 : Int)))]) (by kernel_rfl) ?_
    refine CW.eqF (F' := [(0, .int .u8 a0), (1, .bool a1), (8, pt g22 0), (9, pt g172 0), (10, pt g178 0), (11, pt g198 0), (12, .bool true), (38, .int .u8 a0), (53, .bool true)]) (by rw [ht379]) ?_
    have hk381 := ht379
    replace ht379 : a0 = (4 : Int) := (bEqT ht379)
    refine CW.skip ?_
    exact fun _ ha => ⟨_, ha.keep [0, 1, 8, 9, 10, 11, 12, 38, 53] (F' := [(0, .int .u8 a0), (1, .bool a1), (8, pt g22 0), (9, pt g172 0), (10, pt g178 0), (11, pt g198 0), (12, .bool true), (38, .int .u8 a0), (53, .bool true)]) (by kernel_rfl), true, rfl, hC226, hb229, hb230, hb231, hb232, hb233, hb234, hs380⟩
   have hs382 := ifF ht379 hs367
   replace ht379 : a0 ≠ (4 : Int) := (bEqF ht379)
   refine CW.region ?_
   refine WR.batch 2 [(0, .int .u8 a0), (1, .bool a1), (8, pt g22 0), (9, pt g172 0), (10, pt g178 0), (11, pt g198 0), (12, .bool true), (38, .int .u8 a0), (53, .bool (a0 == (5 : Int)))] (by kernel_rfl) ?_
   refine WR.fin (by kernel_rfl) ?_
   exact fun _ ha => ⟨_, ha.keep [0, 1, 8, 9, 10, 11, 12, 38, 53] (F' := [(0, .int .u8 a0), (1, .bool a1), (8, pt g22 0), (9, pt g172 0), (10, pt g178 0), (11, pt g198 0), (12, .bool true), (38, .int .u8 a0), (53, .bool (a0 == (5 : Int)))]) (by kernel_rfl), (a0 == (5 : Int)), rfl, hC226, hb229, hb230, hb231, hb232, hb233, hb234, hs382⟩
  rintro _ w372 ⟨v300, rfl, hC370, hb373, hb374, hb375, hb376, hb377, hb378, hsj371⟩
  have hz383 := hC370.size
  have hs384 := hsj371.trans (ref11_Do_J2.eq_1 _ _ _ _ _ _)
  have hg385 := hb373.lt
  have hg386 := hb374.lt
  have hg387 := hb375.lt
  have hg388 := hb376.lt
  have hg389 := hb377.lt
  have hg390 := hb378.lt
  refine CW.cond (v300) (by kernel_rfl) (fun ht391 => ?_) (fun ht391 => ?_)
  ·
   have hs392 := ifT ht391 hs384
   refine CW.region ?_
   refine WR.batch 1 [(1, .bool a1), (8, pt g22 0), (9, pt g172 0), (10, pt g178 0), (11, pt g198 0), (12, .bool true), (56, .int .u8 a0)] (by kernel_rfl) ?_
   refine WR.load (dst := some 57) (t := 25) (o := 0) hb376 (by kernel_rfl) (.agg #[.int .u64 (ref11_cut a2 a1).Lo, .int .u64 (ref11_cut a2 a1).Hi]) (by kernel_rfl) ?_
   refine WR.load (dst := some 58) (t := 25) (o := 0) hb377 (by kernel_rfl) (.agg #[.int .u64 (ref11_cut a3 a1).Lo, .int .u64 (ref11_cut a3 a1).Hi]) (by kernel_rfl) ?_
   obtain ⟨x393, hx394⟩ : ∃ x, ref11_parts a0 (ref11_cut a2 a1) (ref11_cut a3 a1) = x := ⟨_, rfl⟩
   have hs396 := letS hx394 hs392
   have hx395 : IU64 x393.Lo ∧ IU64 x393.Hi := by have : IU64 (ref11_cut a2 a1).Lo ∧ IU64 (ref11_cut a2 a1).Hi := ref11_cut_ok a2 a1 ⟨(by omega), (by omega)⟩ ; have : IU64 (ref11_cut a3 a1).Lo ∧ IU64 (ref11_cut a3 a1).Hi := ref11_cut_ok a3 a1 ⟨(by omega), (by omega)⟩ ; rw [← hx394]; exact ref11_parts_ok a0 (ref11_cut a2 a1) (ref11_cut a3 a1) (by omega) ⟨(by omega), (by omega)⟩ ⟨(by omega), (by omega)⟩ 
   refine WR.call (dst := some 59) (by kernel_rfl) (retE (g := TSpan.v) hx394 (ref11_parts_any a0 (ref11_cut a2 a1) (ref11_cut a3 a1) w372  (by omega) ⟨(by omega), (by omega)⟩ ⟨(by omega), (by omega)⟩ )) ?_
   rintro _ w397 hc398 rfl
   have hz400 := hc398.size
   have hC399 := hC370.pure hc398
   have hb404 := hb378.pure hc398
   refine WR.store (t := 25) (o := 0) (v := .agg #[.int .u64 x393.Lo, .int .u64 x393.Hi]) hb404 (by kernel_rfl) #[.int .u64 x393.Lo, .int .u64 x393.Hi] (by kernel_rfl) ?_
   intro w401 hb402 hc403
   have hz406 := hc403.size
   have hC405 := hC399.step1 hc403 (by omega)
   refine WR.fin (by kernel_rfl) ?_
   have hb407 := (hb373.pure hc398).chg1 hc403 (by omega)
   have hb408 := (hb374.pure hc398).chg1 hc403 (by omega)
   have hb409 := (hb375.pure hc398).chg1 hc403 (by omega)
   have hb410 := (hb376.pure hc398).chg1 hc403 (by omega)
   have hb411 := (hb377.pure hc398).chg1 hc403 (by omega)
   exact fun _ ha => ⟨_, ha.keep [1, 8, 11, 12] (F' := [(1, .bool a1), (8, pt g22 0), (11, pt g198 0), (12, .bool true)]) (by kernel_rfl), true, x393.Lo, x393.Hi, rfl, hC405, hb407, hb408, hb409, hb410, hb411, hb402, (by omega), (by omega), hs396⟩
  have hs412 := ifF ht391 hs384
  refine CW.seq fun K413 hK413 => ?_
  refine CW.seq fun K414 hK414 => ?_
  refine CW.region ?_
  refine WR.batch 2 [(0, .int .u8 a0), (1, .bool a1), (8, pt g22 0), (9, pt g172 0), (10, pt g178 0), (11, pt g198 0), (12, .bool true), (38, .int .u8 a0), (60, .bool (a0 == (6 : Int)))] (by kernel_rfl) ?_
  refine WR.fin (by kernel_rfl) ?_
  refine go hK414 ?_
  refine CW.join hK413 (fun F' w' => ∃ (v400 : Bool), F' = [(0, .int .u8 a0), (1, .bool a1), (8, pt g22 0), (9, pt g172 0), (10, pt g178 0), (11, pt g198 0), (12, .bool true), (38, .int .u8 a0), (60, .bool v400)] ∧ Chg [] w w' ∧ Blk w' g2 #[.int .u64 a2.Lo, .int .u64 a2.Hi] 25 ∧ Blk w' g12 #[.int .u64 a3.Lo, .int .u64 a3.Hi] 25 ∧ Blk w' g22 #[.int .u64 0, .int .u64 0] 25 ∧ Blk w' g172 #[.int .u64 (ref11_cut a2 a1).Lo, .int .u64 (ref11_cut a2 a1).Hi] 25 ∧ Blk w' g178 #[.int .u64 (ref11_cut a3 a1).Lo, .int .u64 (ref11_cut a3 a1).Hi] 25 ∧ Blk w' g198 #[.int .u64 (ref11_cut a3 a1).Lo, .int .u64 (ref11_cut a3 a1).Hi] 25 ∧ (ref11_Do a0 a1 a2 a3) = ref11_Do_J3 a0 a1 a2 a3 v200 v300 v400) ?_ ?_
  ·
   refine CW.cond ((a0 == (6 : Int))) (by kernel_rfl) (fun ht424 => ?_) (fun ht424 => ?_)
   ·
    have hs425 := ifT ht424 hs412
    refine CW.keep [0, 1, 8, 9, 10, 11, 12, 38, 60] (F' := [(0, .int .u8 a0), (1, .bool a1), (8, pt g22 0), (9, pt g172 0), (10, pt g178 0), (11, pt g198 0), (12, .bool true), (38, .int .u8 a0), (60, .bool (a0 == (6 : Int)))]) (by kernel_rfl) ?_
    refine CW.eqF (F' := [(0, .int .u8 a0), (1, .bool a1), (8, pt g22 0), (9, pt g172 0), (10, pt g178 0), (11, pt g198 0), (12, .bool true), (38, .int .u8 a0), (60, .bool true)]) (by rw [ht424]) ?_
    have hk426 := ht424
    replace ht424 : a0 = (6 : Int) := (bEqT ht424)
    refine CW.skip ?_
    exact fun _ ha => ⟨_, ha.keep [0, 1, 8, 9, 10, 11, 12, 38, 60] (F' := [(0, .int .u8 a0), (1, .bool a1), (8, pt g22 0), (9, pt g172 0), (10, pt g178 0), (11, pt g198 0), (12, .bool true), (38, .int .u8 a0), (60, .bool true)]) (by kernel_rfl), true, rfl, hC370, hb373, hb374, hb375, hb376, hb377, hb378, hs425⟩
   have hs427 := ifF ht424 hs412
   replace ht424 : a0 ≠ (6 : Int) := (bEqF ht424)
   refine CW.seq fun K428 hK428 => ?_
   refine CW.region ?_
   refine WR.batch 2 [(0, .int .u8 a0), (1, .bool a1), (8, pt g22 0), (9, pt g172 0), (10, pt g178 0), (11, pt g198 0), (12, .bool true), (38, .int .u8 a0), (60, .bool (a0 == (7 : Int)))] (by kernel_rfl) ?_
   refine WR.fin (by kernel_rfl) ?_
   refine go hK428 ?_
   refine CW.cond ((a0 == (7 : Int))) (by kernel_rfl) (fun ht429 => ?_) (fun ht429 => ?_)
   ·
    have hs430 := ifT ht429 hs427
    refine CW.keep [0, 1, 8, 9, 10, 11, 12, 38, 60] (F' := [(0, .int .u8 a0), (1, .bool a1), (8, pt g22 0), (9, pt g172 0), (10, pt g178 0), (11, pt g198 0), (12, .bool true), (38, .int .u8 a0), (60, .bool (a0 == (7 : Int)))]) (by kernel_rfl) ?_
    refine CW.eqF (F' := [(0, .int .u8 a0), (1, .bool a1), (8, pt g22 0), (9, pt g172 0), (10, pt g178 0), (11, pt g198 0), (12, .bool true), (38, .int .u8 a0), (60, .bool true)]) (by rw [ht429]) ?_
    have hk431 := ht429
    replace ht429 : a0 = (7 : Int) := (bEqT ht429)
    refine CW.skip ?_
    exact fun _ ha => ⟨_, ha.keep [0, 1, 8, 9, 10, 11, 12, 38, 60] (F' := [(0, .int .u8 a0), (1, .bool a1), (8, pt g22 0), (9, pt g172 0), (10, pt g178 0), (11, pt g198 0), (12, .bool true), (38, .int .u8 a0), (60, .bool true)]) (by kernel_rfl), true, rfl, hC370, hb373, hb374, hb375, hb376, hb377, hb378, hs430⟩
   have hs432 := ifF ht429 hs427
   replace ht429 : a0 ≠ (7 : Int) := (bEqF ht429)
   refine CW.region ?_
   refine WR.batch 2 [(0, .int .u8 a0), (1, .bool a1), (8, pt g22 0), (9, pt g172 0), (10, pt g178 0), (11, pt g198 0), (12, .bool true), (38, .int .u8 a0), (60, .bool (a0 == (8 : Int)))] (by kernel_rfl) ?_
   refine WR.fin (by kernel_rfl) ?_
   exact fun _ ha => ⟨_, ha.keep [0, 1, 8, 9, 10, 11, 12, 38, 60] (F' := [(0, .int .u8 a0), (1, .bool a1), (8, pt g22 0), (9, pt g172 0), (10, pt g178 0), (11, pt g198 0), (12, .bool true), (38, .int .u8 a0), (60, .bool (a0 == (8 : Int)))]) (by kernel_rfl), (a0 == (8 : Int)), rfl, hC370, hb373, hb374, hb375, hb376, hb377, hb378, hs432⟩
  rintro _ w417 ⟨v400, rfl, hC415, hb418, hb419, hb420, hb421, hb422, hb423, hsj416⟩
  have hz433 := hC415.size
  have hs434 := hsj416.trans (ref11_Do_J3.eq_1 _ _ _ _ _ _ _)
  have hg435 := hb418.lt
  have hg436 := hb419.lt
  have hg437 := hb420.lt
  have hg438 := hb421.lt
  have hg439 := hb422.lt
  have hg440 := hb423.lt
  refine CW.cond (v400) (by kernel_rfl) (fun ht441 => ?_) (fun ht441 => ?_)
  ·
   have hs442 := ifT ht441 hs434
   refine CW.region ?_
   refine WR.batch 1 [(1, .bool a1), (8, pt g22 0), (9, pt g172 0), (10, pt g178 0), (11, pt g198 0), (12, .bool true), (64, .int .u8 a0)] (by kernel_rfl) ?_
   refine WR.load (dst := some 65) (t := 25) (o := 0) hb421 (by kernel_rfl) (.agg #[.int .u64 (ref11_cut a2 a1).Lo, .int .u64 (ref11_cut a2 a1).Hi]) (by kernel_rfl) ?_
   refine WR.load (dst := some 66) (t := 25) (o := 0) hb422 (by kernel_rfl) (.agg #[.int .u64 (ref11_cut a3 a1).Lo, .int .u64 (ref11_cut a3 a1).Hi]) (by kernel_rfl) ?_
   obtain ⟨x443, hx444⟩ : ∃ x, ref11_logic a0 (ref11_cut a2 a1) (ref11_cut a3 a1) = x := ⟨_, rfl⟩
   have hs446 := letS hx444 hs442
   have hx445 : IU64 x443.Lo ∧ IU64 x443.Hi := by have : IU64 (ref11_cut a2 a1).Lo ∧ IU64 (ref11_cut a2 a1).Hi := ref11_cut_ok a2 a1 ⟨(by omega), (by omega)⟩ ; have : IU64 (ref11_cut a3 a1).Lo ∧ IU64 (ref11_cut a3 a1).Hi := ref11_cut_ok a3 a1 ⟨(by omega), (by omega)⟩ ; rw [← hx444]; exact ref11_logic_ok a0 (ref11_cut a2 a1) (ref11_cut a3 a1) (by omega) ⟨(by omega), (by omega)⟩ ⟨(by omega), (by omega)⟩ 
   refine WR.call (dst := some 67) (by kernel_rfl) (retE (g := TSpan.v) hx444 (ref11_logic_any a0 (ref11_cut a2 a1) (ref11_cut a3 a1) w417  (by omega) ⟨(by omega), (by omega)⟩ ⟨(by omega), (by omega)⟩ )) ?_
   rintro _ w447 hc448 rfl
   have hz450 := hc448.size
   have hC449 := hC415.pure hc448
   have hb454 := hb423.pure hc448
   refine WR.store (t := 25) (o := 0) (v := .agg #[.int .u64 x443.Lo, .int .u64 x443.Hi]) hb454 (by kernel_rfl) #[.int .u64 x443.Lo, .int .u64 x443.Hi] (by kernel_rfl) ?_
   intro w451 hb452 hc453
   have hz456 := hc453.size
   have hC455 := hC449.step1 hc453 (by omega)
   refine WR.fin (by kernel_rfl) ?_
   have hb457 := (hb418.pure hc448).chg1 hc453 (by omega)
   have hb458 := (hb419.pure hc448).chg1 hc453 (by omega)
   have hb459 := (hb420.pure hc448).chg1 hc453 (by omega)
   have hb460 := (hb421.pure hc448).chg1 hc453 (by omega)
   have hb461 := (hb422.pure hc448).chg1 hc453 (by omega)
   exact fun _ ha => ⟨_, ha.keep [1, 8, 11, 12] (F' := [(1, .bool a1), (8, pt g22 0), (11, pt g198 0), (12, .bool true)]) (by kernel_rfl), true, x443.Lo, x443.Hi, rfl, hC455, hb457, hb458, hb459, hb460, hb461, hb452, (by omega), (by omega), hs446⟩
  have hs462 := ifF ht441 hs434
  refine CW.seq fun K463 hK463 => ?_
  refine CW.seq fun K464 hK464 => ?_
  refine CW.region ?_
  refine WR.batch 2 [(0, .int .u8 a0), (1, .bool a1), (8, pt g22 0), (9, pt g172 0), (10, pt g178 0), (11, pt g198 0), (12, .bool true), (38, .int .u8 a0), (68, .bool (a0 == (9 : Int)))] (by kernel_rfl) ?_
  refine WR.fin (by kernel_rfl) ?_
  refine go hK464 ?_
  refine CW.join hK463 (fun F' w' => ∃ (v500 : Bool), F' = [(0, .int .u8 a0), (1, .bool a1), (8, pt g22 0), (9, pt g172 0), (10, pt g178 0), (11, pt g198 0), (12, .bool true), (68, .bool v500)] ∧ Chg [] w w' ∧ Blk w' g2 #[.int .u64 a2.Lo, .int .u64 a2.Hi] 25 ∧ Blk w' g12 #[.int .u64 a3.Lo, .int .u64 a3.Hi] 25 ∧ Blk w' g22 #[.int .u64 0, .int .u64 0] 25 ∧ Blk w' g172 #[.int .u64 (ref11_cut a2 a1).Lo, .int .u64 (ref11_cut a2 a1).Hi] 25 ∧ Blk w' g178 #[.int .u64 (ref11_cut a3 a1).Lo, .int .u64 (ref11_cut a3 a1).Hi] 25 ∧ Blk w' g198 #[.int .u64 (ref11_cut a3 a1).Lo, .int .u64 (ref11_cut a3 a1).Hi] 25 ∧ (ref11_Do a0 a1 a2 a3) = ref11_Do_J4 a0 a1 a2 a3 v200 v300 v400 v500) ?_ ?_
  ·
   refine CW.cond ((a0 == (9 : Int))) (by kernel_rfl) (fun ht474 => ?_) (fun ht474 => ?_)
   ·
    have hs475 := ifT ht474 hs462
    refine CW.keep [0, 1, 8, 9, 10, 11, 12, 68] (F' := [(0, .int .u8 a0), (1, .bool a1), (8, pt g22 0), (9, pt g172 0), (10, pt g178 0), (11, pt g198 0), (12, .bool true), (68, .bool (a0 == (9 : Int)))]) (by kernel_rfl) ?_
    refine CW.eqF (F' := [(0, .int .u8 a0), (1, .bool a1), (8, pt g22 0), (9, pt g172 0), (10, pt g178 0), (11, pt g198 0), (12, .bool true), (68, .bool true)]) (by rw [ht474]) ?_
    have hk476 := ht474
    replace ht474 : a0 = (9 : Int) := (bEqT ht474)
    refine CW.skip ?_
    exact fun _ ha => ⟨_, ha.keep [0, 1, 8, 9, 10, 11, 12, 68] (F' := [(0, .int .u8 a0), (1, .bool a1), (8, pt g22 0), (9, pt g172 0), (10, pt g178 0), (11, pt g198 0), (12, .bool true), (68, .bool true)]) (by kernel_rfl), true, rfl, hC415, hb418, hb419, hb420, hb421, hb422, hb423, hs475⟩
   have hs477 := ifF ht474 hs462
   replace ht474 : a0 ≠ (9 : Int) := (bEqF ht474)
   refine CW.seq fun K478 hK478 => ?_
   refine CW.region ?_
   refine WR.batch 2 [(0, .int .u8 a0), (1, .bool a1), (8, pt g22 0), (9, pt g172 0), (10, pt g178 0), (11, pt g198 0), (12, .bool true), (38, .int .u8 a0), (68, .bool (a0 == (10 : Int)))] (by kernel_rfl) ?_
   refine WR.fin (by kernel_rfl) ?_
   refine go hK478 ?_
   refine CW.cond ((a0 == (10 : Int))) (by kernel_rfl) (fun ht479 => ?_) (fun ht479 => ?_)
   ·
    have hs480 := ifT ht479 hs477
    refine CW.keep [0, 1, 8, 9, 10, 11, 12, 68] (F' := [(0, .int .u8 a0), (1, .bool a1), (8, pt g22 0), (9, pt g172 0), (10, pt g178 0), (11, pt g198 0), (12, .bool true), (68, .bool (a0 == (10 : Int)))]) (by kernel_rfl) ?_
    refine CW.eqF (F' := [(0, .int .u8 a0), (1, .bool a1), (8, pt g22 0), (9, pt g172 0), (10, pt g178 0), (11, pt g198 0), (12, .bool true), (68, .bool true)]) (by rw [ht479]) ?_
    have hk481 := ht479
    replace ht479 : a0 = (10 : Int) := (bEqT ht479)
    refine CW.skip ?_
    exact fun _ ha => ⟨_, ha.keep [0, 1, 8, 9, 10, 11, 12, 68] (F' := [(0, .int .u8 a0), (1, .bool a1), (8, pt g22 0), (9, pt g172 0), (10, pt g178 0), (11, pt g198 0), (12, .bool true), (68, .bool true)]) (by kernel_rfl), true, rfl, hC415, hb418, hb419, hb420, hb421, hb422, hb423, hs480⟩
   have hs482 := ifF ht479 hs477
   replace ht479 : a0 ≠ (10 : Int) := (bEqF ht479)
   refine CW.region ?_
   refine WR.batch 2 [(0, .int .u8 a0), (1, .bool a1), (8, pt g22 0), (9, pt g172 0), (10, pt g178 0), (11, pt g198 0), (12, .bool true), (68, .bool (a0 == (11 : Int)))] (by kernel_rfl) ?_
   refine WR.fin (by kernel_rfl) ?_
   exact fun _ ha => ⟨_, ha.keep [0, 1, 8, 9, 10, 11, 12, 68] (F' := [(0, .int .u8 a0), (1, .bool a1), (8, pt g22 0), (9, pt g172 0), (10, pt g178 0), (11, pt g198 0), (12, .bool true), (68, .bool (a0 == (11 : Int)))]) (by kernel_rfl), (a0 == (11 : Int)), rfl, hC415, hb418, hb419, hb420, hb421, hb422, hb423, hs482⟩
  rintro _ w467 ⟨v500, rfl, hC465, hb468, hb469, hb470, hb471, hb472, hb473, hsj466⟩
  have hz483 := hC465.size
  have hs484 := hsj466.trans (ref11_Do_J4.eq_1 _ _ _ _ _ _ _ _)
  have hg485 := hb468.lt
  have hg486 := hb469.lt
  have hg487 := hb470.lt
  have hg488 := hb471.lt
  have hg489 := hb472.lt
  have hg490 := hb473.lt
  refine CW.cond (v500) (by kernel_rfl) (fun ht491 => ?_) (fun ht491 => ?_)
  ·
   have hs492 := ifT ht491 hs484
   refine CW.region ?_
   refine WR.batch 2 [(1, .bool a1), (8, pt g22 0), (9, pt g172 0), (10, pt g178 0), (11, pt g198 0), (73, .int .u8 a0), (74, .bool a1)] (by kernel_rfl) ?_
   refine WR.load (dst := some 75) (t := 25) (o := 0) hb471 (by kernel_rfl) (.agg #[.int .u64 (ref11_cut a2 a1).Lo, .int .u64 (ref11_cut a2 a1).Hi]) (by kernel_rfl) ?_
   refine WR.load (dst := some 76) (t := 25) (o := 0) hb472 (by kernel_rfl) (.agg #[.int .u64 (ref11_cut a3 a1).Lo, .int .u64 (ref11_cut a3 a1).Hi]) (by kernel_rfl) ?_
   obtain ⟨x493, hx494⟩ : ∃ x, ref11_shifts a0 a1 (ref11_cut a2 a1) (ref11_cut a3 a1) = x := ⟨_, rfl⟩
   have hs496 := letS hx494 hs492
   have hx495 : IU64 x493.1.Lo ∧ IU64 x493.1.Hi := by have : IU64 (ref11_cut a2 a1).Lo ∧ IU64 (ref11_cut a2 a1).Hi := ref11_cut_ok a2 a1 ⟨(by omega), (by omega)⟩ ; have : IU64 (ref11_cut a3 a1).Lo ∧ IU64 (ref11_cut a3 a1).Hi := ref11_cut_ok a3 a1 ⟨(by omega), (by omega)⟩ ; rw [← hx494]; exact ref11_shifts_ok a0 a1 (ref11_cut a2 a1) (ref11_cut a3 a1) (by omega) ⟨(by omega), (by omega)⟩ ⟨(by omega), (by omega)⟩ 
   refine WR.call (dst := some 77) (by kernel_rfl) (retE (g := (fun r : (TSpan × Bool) => (.tuple #[TSpan.v r.1, .bool r.2] : Value))) hx494 (ref11_shifts_any a0 a1 (ref11_cut a2 a1) (ref11_cut a3 a1) w467  (by omega) ⟨(by omega), (by omega)⟩ ⟨(by omega), (by omega)⟩ )) ?_
   rintro _ w497 hc498 rfl
   have hz500 := hc498.size
   have hC499 := hC465.pure hc498
   refine WR.batch 3 [(1, .bool a1), (8, pt g22 0), (11, pt g198 0), (78, .agg #[.int .u64 x493.1.Lo, .int .u64 x493.1.Hi]), (79, .bool x493.2)] (by kernel_rfl) ?_
   have hb504 := hb473.pure hc498
   refine WR.store (t := 25) (o := 0) (v := .agg #[.int .u64 x493.1.Lo, .int .u64 x493.1.Hi]) hb504 (by kernel_rfl) #[.int .u64 x493.1.Lo, .int .u64 x493.1.Hi] (by kernel_rfl) ?_
   intro w501 hb502 hc503
   have hz506 := hc503.size
   have hC505 := hC499.step1 hc503 (by omega)
   refine WR.batch 1 [(1, .bool a1), (8, pt g22 0), (11, pt g198 0), (12, .bool x493.2)] (by kernel_rfl) ?_
   refine WR.fin (by kernel_rfl) ?_
   have hb507 := (hb468.pure hc498).chg1 hc503 (by omega)
   have hb508 := (hb469.pure hc498).chg1 hc503 (by omega)
   have hb509 := (hb470.pure hc498).chg1 hc503 (by omega)
   have hb510 := (hb471.pure hc498).chg1 hc503 (by omega)
   have hb511 := (hb472.pure hc498).chg1 hc503 (by omega)
   exact fun _ ha => ⟨_, ha.keep [1, 8, 11, 12] (F' := [(1, .bool a1), (8, pt g22 0), (11, pt g198 0), (12, .bool x493.2)]) (by kernel_rfl), x493.2, x493.1.Lo, x493.1.Hi, rfl, hC505, hb507, hb508, hb509, hb510, hb511, hb502, (by omega), (by omega), hs496⟩
  have hs512 := ifF ht491 hs484
  refine CW.skip ?_
  exact fun _ ha => ⟨_, ha.keep [1, 8, 11, 12] (F' := [(1, .bool a1), (8, pt g22 0), (11, pt g198 0), (12, .bool true)]) (by kernel_rfl), true, (ref11_cut a3 a1).Lo, (ref11_cut a3 a1).Hi, rfl, hC465, hb468, hb469, hb470, hb471, hb472, hb473, (by have : IU64 (ref11_cut a3 a1).Lo ∧ IU64 (ref11_cut a3 a1).Hi := ref11_cut_ok a3 a1 ⟨(by omega), (by omega)⟩ ; exact (by omega)), (by have : IU64 (ref11_cut a3 a1).Lo ∧ IU64 (ref11_cut a3 a1).Hi := ref11_cut_ok a3 a1 ⟨(by omega), (by omega)⟩ ; exact (by omega)), hs512⟩
 rintro _ w217 ⟨v100, v101, v102, rfl, hC215, hb218, hb219, hb220, hb221, hb222, hb223, hr_v101, hr_v102, hsj216⟩
 have hz513 := hC215.size
 have hs514 := hsj216.trans (ref11_Do_J0.eq_1 _ _ _ _ _ _ _)
 have hg515 := hb218.lt
 have hg516 := hb219.lt
 have hg517 := hb220.lt
 have hg518 := hb221.lt
 have hg519 := hb222.lt
 have hg520 := hb223.lt
 refine CW.seq fun K521 hK521 => ?_
 refine CW.seq fun K522 hK522 => ?_
 refine CW.region ?_
 refine WR.batch 2 [(1, .bool a1), (8, pt g22 0), (11, pt g198 0), (81, .bool (!v100))] (by kernel_rfl) ?_
 refine WR.fin (by kernel_rfl) ?_
 refine go hK522 ?_
 refine CW.cond ((!v100)) (by kernel_rfl) (fun ht523 => ?_) (fun ht523 => ?_)
 ·
  have hs524 := ifT ht523 hs514
  replace ht523 : v100 = false := (bNotT ht523)
  refine CW.seq fun K525 hK525 => ?_
  refine CW.region ?_
  refine WR.batch 1 [(8, pt g22 0), (82, .bool a1)] (by kernel_rfl) ?_
  obtain ⟨x526, hx527⟩ : ∃ x, ref11_All a1 = x := ⟨_, rfl⟩
  have hs529 := letS hx527 hs524
  have hx528 : IU64 x526.Lo ∧ IU64 x526.Hi := by rw [← hx527]; exact ref11_All_ok a1 
  refine WR.call (dst := some 83) (by kernel_rfl) (retE (g := TSpan.v) hx527 (ref11_All_any a1 w217  )) ?_
  rintro _ w530 hc531 rfl
  have hz533 := hc531.size
  have hC532 := hC215.pure hc531
  have hb537 := hb220.pure hc531
  refine WR.store (t := 25) (o := 0) (v := .agg #[.int .u64 x526.Lo, .int .u64 x526.Hi]) hb537 (by kernel_rfl) #[.int .u64 x526.Lo, .int .u64 x526.Hi] (by kernel_rfl) ?_
  intro w534 hb535 hc536
  have hz539 := hc536.size
  have hC538 := hC532.step1 hc536 (by omega)
  refine WR.fin (by kernel_rfl) ?_
  refine go hK525 ?_
  refine CW.ret ?_
  exact retC [.agg #[.int .u64 x526.Lo, .int .u64 x526.Hi]] _ rfl ⟨resCell hb535 rfl (by kernel_rfl), trivial⟩ (⟨hC538, (congrArg TSpan.v hs529).symm⟩)
 have hs540 := ifF ht523 hs514
 replace ht523 : v100 = true := (bNotF ht523)
 refine CW.skip ?_
 refine go hK521 ?_
 refine CW.seq fun K541 hK541 => ?_
 refine CW.region ?_
 refine WR.load (dst := some 84) (t := 25) (o := 0) hb223 (by kernel_rfl) (.agg #[.int .u64 v101, .int .u64 v102]) (by kernel_rfl) ?_
 refine WR.store (t := 25) (o := 0) (v := .agg #[.int .u64 v101, .int .u64 v102]) hb220 (by kernel_rfl) #[.int .u64 v101, .int .u64 v102] (by kernel_rfl) ?_
 intro w542 hb543 hc544
 have hz546 := hc544.size
 have hC545 := hC215.step1 hc544 (by omega)
 refine WR.fin (by kernel_rfl) ?_
 refine go hK541 ?_
 refine CW.ret ?_
 exact retC [.agg #[.int .u64 v101, .int .u64 v102]] _ rfl ⟨resCell hb543 rfl (by kernel_rfl), trivial⟩ (⟨hC545, (congrArg TSpan.v hs540).symm⟩)
end Go.V
