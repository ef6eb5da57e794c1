import Derived.Test.YtjiagljaipadmaaProg
import Derived.Test.YtjiagljaipadmaaLt
namespace Go.V
open Go.RowKit Go.Proofs
def law11_member (a0 : TSpan) (a1 : Int)  : Int := (if ((IntKind.u64.wrap (a0.Hi - a0.Lo)) == (18446744073709551615 : Int)) then a1 else (IntKind.u64.wrap (a0.Lo + ((a1).tmod (IntKind.u64.wrap ((IntKind.u64.wrap (a0.Hi - a0.Lo)) + (1 : Int)))))))

theorem law11_member_ok (a0 : TSpan) (a1 : Int)  (_h_a0 : IU64 a0.Lo ∧ IU64 a0.Hi) (_h_a1 : IU64 a1)  : IU64 (law11_member a0 a1) := by
 rw [law11_member.eq_1]
 refine iteR (p := fun r : Int => IU64 r) (fun hi1001 => ?_) (fun hi1001 => ?_)
 ·
  replace hi1001 : (IntKind.u64.wrap (a0.Hi - a0.Lo)) = (18446744073709551615 : Int) := (bEqT hi1001)
  exact (by exact (show IU64 a1 from (by omega)))
 replace hi1001 : (IntKind.u64.wrap (a0.Hi - a0.Lo)) ≠ (18446744073709551615 : Int) := (bEqF hi1001)
 exact (by exact (show IU64 (IntKind.u64.wrap (a0.Lo + ((a1).tmod (IntKind.u64.wrap ((IntKind.u64.wrap (a0.Hi - a0.Lo)) + (1 : Int)))))) from (wrapU64 _)))

theorem law11_member_any (a0 : TSpan) (a1 : Int)   (w : World)  (_h_a0 : IU64 a0.Lo ∧ IU64 a0.Hi) (_h_a1 : IU64 a1)  : Calls Try.prog 34 #[.agg #[.int .u64 a0.Lo, .int .u64 a0.Hi], .int .u64 a1] w (RetV w (.int .u64 (law11_member a0 a1))) := by
 have hs := law11_member.eq_1 a0 a1
 refine calls_of_CW Try.func34 rfl (n := 23) Try.ntmps34 (by kernel_rfl) [0, 1] (F := [(0, .agg #[.int .u64 a0.Lo, .int .u64 a0.Hi]), (1, .int .u64 a1)]) (by kernel_rfl) ?_
 refine CW.seq fun K1 hK1 => ?_
 refine CW.region ?_
 refine WR.box (dst := some 2) (e := 25) (v := .agg #[.int .u64 a0.Lo, .int .u64 a0.Hi]) (by kernel_rfl) #[.int .u64 a0.Lo, .int .u64 a0.Hi] (by kernel_rfl) ?_
 intro g2 w3 hN4
 have hf6 : w.heap.size ≤ g2 := hN4.fresh
 have hfr8 := hN4.fresh
 have hc7 := hN4.chg
 have hz10 := hc7.size
 have hC9 := (Chg.refl [] w).pure hc7
 have hb5 := hN4.blk
 have hg11 := hb5.lt
 refine WR.batch 1 [(1, .int .u64 a1), (2, pt g2 0)] (by kernel_rfl) ?_
 refine WR.fin (by kernel_rfl) ?_
 refine go hK1 ?_
 refine CW.seq fun K12 hK12 => ?_
 refine CW.seq fun K13 hK13 => ?_
 refine CW.region ?_
 refine WR.batch 1 [(1, .int .u64 a1), (2, pt g2 0), (5, pt g2 1)] (by kernel_rfl) ?_
 refine WR.load (dst := some 6) (t := 23) (o := 1) hb5 (by kernel_rfl) (.int .u64 a0.Hi) (by kernel_rfl) ?_
 refine WR.batch 1 [(1, .int .u64 a1), (2, pt g2 0), (6, .int .u64 a0.Hi), (7, pt g2 0)] (by kernel_rfl) ?_
 refine WR.load (dst := some 8) (t := 23) (o := 0) hb5 (by kernel_rfl) (.int .u64 a0.Lo) (by kernel_rfl) ?_
 refine WR.batch 2 [(1, .int .u64 a1), (2, pt g2 0), (10, .bool ((IntKind.u64.wrap (a0.Hi - a0.Lo)) == (18446744073709551615 : Int)))] (by kernel_rfl) ?_
 refine WR.fin (by kernel_rfl) ?_
 refine go hK13 ?_
 refine CW.cond (((IntKind.u64.wrap (a0.Hi - a0.Lo)) == (18446744073709551615 : Int))) (by kernel_rfl) (fun ht14 => ?_) (fun ht14 => ?_)
 ·
  have hs15 := ifT ht14 hs
  replace ht14 : (IntKind.u64.wrap (a0.Hi - a0.Lo)) = (18446744073709551615 : Int) := (bEqT ht14)
  refine CW.seq fun K16 hK16 => ?_
  refine CW.region ?_
  refine WR.batch 2 [(4, .int .u64 a1)] (by kernel_rfl) ?_
  refine WR.fin (by kernel_rfl) ?_
  refine go hK16 ?_
  refine CW.ret ?_
  exact retV (.int .u64 a1) (by kernel_rfl) (⟨hC9, (congrArg (fun r : Int => (.int .u64 r : Value)) hs15).symm⟩)
 have hs17 := ifF ht14 hs
 replace ht14 : (IntKind.u64.wrap (a0.Hi - a0.Lo)) ≠ (18446744073709551615 : Int) := (bEqF ht14)
 refine CW.skip ?_
 refine go hK12 ?_
 refine CW.seq fun K18 hK18 => ?_
 refine CW.regionQ (by kernel_rfl) (by kernel_rfl) ?_
 refine WQ.val (dst := some 12) (pt g2 0) (fun _ => by kernel_rfl) ?_
 refine WQ.load (dst := some 13) (t := 23) (o := 0) (fun _ hq => hb5.pure hq) (by kernel_rfl) (.int .u64 a0.Lo) (by kernel_rfl) ?_
 refine WQ.val (dst := some 14) (.int .u64 a1) (fun _ => by kernel_rfl) ?_
 refine WQ.val (dst := some 15) (pt g2 1) (fun _ => by kernel_rfl) ?_
 refine WQ.load (dst := some 16) (t := 23) (o := 1) (fun _ hq => hb5.pure hq) (by kernel_rfl) (.int .u64 a0.Hi) (by kernel_rfl) ?_
 refine WQ.val (dst := some 17) (pt g2 0) (fun _ => by kernel_rfl) ?_
 refine WQ.load (dst := some 18) (t := 23) (o := 0) (fun _ hq => hb5.pure hq) (by kernel_rfl) (.int .u64 a0.Lo) (by kernel_rfl) ?_
 refine WQ.val (dst := some 19) (.int .u64 (IntKind.u64.wrap (a0.Hi - a0.Lo))) (fun _ => by kernel_rfl) ?_
 refine WQ.val (dst := some 20) (.int .u64 (IntKind.u64.wrap ((IntKind.u64.wrap (a0.Hi - a0.Lo)) + (1 : Int)))) (fun _ => by kernel_rfl) ?_
 refine WQ.val (dst := some 21) (.int .u64 ((a1).tmod (IntKind.u64.wrap ((IntKind.u64.wrap (a0.Hi - a0.Lo)) + (1 : Int))))) (run_rem (kk := .u64) (x := a1) (y := (IntKind.u64.wrap ((IntKind.u64.wrap (a0.Hi - a0.Lo)) + (1 : Int)))) (by kernel_rfl) (by simp only [wrapU64_eq] at *; omega)) ?_
 have hm19 := tmod_rng (x := a1) (y := (IntKind.u64.wrap ((IntKind.u64.wrap (a0.Hi - a0.Lo)) + (1 : Int)))) (m := 18446744073709551615) (by omega) (show IU64 (IntKind.u64.wrap ((IntKind.u64.wrap (a0.Hi - a0.Lo)) + (1 : Int))) from (wrapU64 _)).1
 refine WQ.val (dst := some 22) (.int .u64 (IntKind.u64.wrap (a0.Lo + ((a1).tmod (IntKind.u64.wrap ((IntKind.u64.wrap (a0.Hi - a0.Lo)) + (1 : Int))))))) (fun _ => by kernel_rfl) ?_
 refine WQ.val (dst := some 4) (.int .u64 (IntKind.u64.wrap (a0.Lo + ((a1).tmod (IntKind.u64.wrap ((IntKind.u64.wrap (a0.Hi - a0.Lo)) + (1 : Int))))))) (fun _ => by kernel_rfl) ?_
 refine WQ.fin (by kernel_rfl) ?_
 intro w20 hc21
 have hz23 := hc21.size
 have hC22 := hC9.pure hc21
 refine go hK18 ?_
 refine CW.ret ?_
 exact retV (.int .u64 (IntKind.u64.wrap (a0.Lo + ((a1).tmod (IntKind.u64.wrap ((IntKind.u64.wrap (a0.Hi - a0.Lo)) + (1 : Int))))))) (by kernel_rfl) (⟨hC22, (congrArg (fun r : Int => (.int .u64 r : Value)) hs17).symm⟩)

def law11_part (a0 : TSpan) (a1 : Int) (a2 : Int)  : TSpan := (letF (law11_member a0 a1) fun x24 => (letF (law11_member a0 a2) fun x28 => (letF (law11_of (gMin x24 x28) (gMax x24 x28)) fun x37 => x37)))

theorem law11_part_ok (a0 : TSpan) (a1 : Int) (a2 : Int)  (_h_a0 : IU64 a0.Lo ∧ IU64 a0.Hi) (_h_a1 : IU64 a1) (_h_a2 : IU64 a2)  : IU64 (law11_part a0 a1 a2).Lo ∧ IU64 (law11_part a0 a1 a2).Hi := by
 rw [law11_part.eq_1]
 refine letR (p := fun r : TSpan => IU64 r.Lo ∧ IU64 r.Hi) fun x24 hx25 => ?_
 have hx26 : IU64 x24 := by rw [← hx25]; exact law11_member_ok a0 a1 ⟨(by omega), (by omega)⟩ (by omega) 
 refine letR (p := fun r : TSpan => IU64 r.Lo ∧ IU64 r.Hi) fun x28 hx29 => ?_
 have hx30 : IU64 x28 := by rw [← hx29]; exact law11_member_ok a0 a2 ⟨(by omega), (by omega)⟩ (by omega) 
 refine letR (p := fun r : TSpan => IU64 r.Lo ∧ IU64 r.Hi) fun x37 hx38 => ?_
 have hx39 : IU64 x37.Lo ∧ IU64 x37.Hi := by rw [← hx38]; exact law11_of_ok (gMin x24 x28) (gMax x24 x28) (gMin_rng (by omega) (by omega)) (gMax_rng (by omega) (by omega)) 
 exact (by exact (show IU64 x37.Lo ∧ IU64 x37.Hi from ⟨(by omega), (by omega)⟩))

theorem law11_part_any (a0 : TSpan) (a1 : Int) (a2 : Int)   (w : World)  (_h_a0 : IU64 a0.Lo ∧ IU64 a0.Hi) (_h_a1 : IU64 a1) (_h_a2 : IU64 a2)  : Calls Try.prog 17 #[.agg #[.int .u64 a0.Lo, .int .u64 a0.Hi], .int .u64 a1, .int .u64 a2] w (RetV w (TSpan.v (law11_part a0 a1 a2))) := by
 have hs := law11_part.eq_1 a0 a1 a2
 refine calls_of_CW Try.func17 rfl (n := 22) Try.ntmps17 (by kernel_rfl) [0, 1, 2] (F := [(0, .agg #[.int .u64 a0.Lo, .int .u64 a0.Hi]), (1, .int .u64 a1), (2, .int .u64 a2)]) (by kernel_rfl) ?_
 refine CW.seq fun K1 hK1 => ?_
 refine CW.region ?_
 refine WR.box (dst := some 3) (e := 25) (v := .agg #[.int .u64 a0.Lo, .int .u64 a0.Hi]) (by kernel_rfl) #[.int .u64 a0.Lo, .int .u64 a0.Hi] (by kernel_rfl) ?_
 intro g2 w3 hN4
 have hf6 : w.heap.size ≤ g2 := hN4.fresh
 have hfr8 := hN4.fresh
 have hc7 := hN4.chg
 have hz10 := hc7.size
 have hC9 := (Chg.refl [] w).pure hc7
 have hb5 := hN4.blk
 have hg11 := hb5.lt
 refine WR.alloc (dst := some 6) (e := 25) (by kernel_rfl) #[.int .u64 0, .int .u64 0] (by kernel_rfl) ?_
 intro g12 w13 hN14
 have hf16 : w.heap.size ≤ g12 := Nat.le_trans hC9.size hN14.fresh
 have hfr18 := hN14.fresh
 have hc17 := hN14.chg
 have hz20 := hc17.size
 have hC19 := hC9.pure hc17
 have hb15 := hN14.blk
 have hg21 := hb15.lt
 refine WR.fin (by kernel_rfl) ?_
 refine go hK1 ?_
 refine CW.seq fun K22 hK22 => ?_
 refine CW.regionQ (by kernel_rfl) (by kernel_rfl) ?_
 have hb23 := hb5.pure hc17
 refine WQ.load (dst := some 9) (t := 25) (o := 0) (fun _ hq => hb23.pure hq) (by kernel_rfl) (.agg #[.int .u64 a0.Lo, .int .u64 a0.Hi]) (by kernel_rfl) ?_
 refine WQ.val (dst := some 10) (.int .u64 a1) (fun _ => by kernel_rfl) ?_
 obtain ⟨x24, hx25⟩ : ∃ x, law11_member a0 a1 = x := ⟨_, rfl⟩
 have hs27 := letS hx25 hs
 have hx26 : IU64 x24 := by rw [← hx25]; exact law11_member_ok a0 a1 ⟨(by omega), (by omega)⟩ (by omega) 
 refine WQ.call (dst := some 11) (.int .u64 x24) (fun _ => by kernel_rfl) (fun _ _ h h' => h.pure h') (fun wq hq => retE (g := (fun r : Int => (.int .u64 r : Value))) hx25 (law11_member_any a0 a1 wq  ⟨(by omega), (by omega)⟩ (by omega) )) ?_
 refine WQ.load (dst := some 12) (t := 25) (o := 0) (fun _ hq => hb23.pure hq) (by kernel_rfl) (.agg #[.int .u64 a0.Lo, .int .u64 a0.Hi]) (by kernel_rfl) ?_
 refine WQ.val (dst := some 13) (.int .u64 a2) (fun _ => by kernel_rfl) ?_
 obtain ⟨x28, hx29⟩ : ∃ x, law11_member a0 a2 = x := ⟨_, rfl⟩
 have hs31 := letS hx29 hs27
 have hx30 : IU64 x28 := by rw [← hx29]; exact law11_member_ok a0 a2 ⟨(by omega), (by omega)⟩ (by omega) 
 refine WQ.call (dst := some 14) (.int .u64 x28) (fun _ => by kernel_rfl) (fun _ _ h h' => h.pure h') (fun wq hq => retE (g := (fun r : Int => (.int .u64 r : Value))) hx29 (law11_member_any a0 a2 wq  ⟨(by omega), (by omega)⟩ (by omega) )) ?_
 refine WQ.val (dst := some 7) (.int .u64 x24) (fun _ => by kernel_rfl) ?_
 refine WQ.val (dst := some 8) (.int .u64 x28) (fun _ => by kernel_rfl) ?_
 refine WQ.fin (by kernel_rfl) ?_
 intro w32 hc33
 have hz35 := hc33.size
 have hC34 := hC19.pure hc33
 refine go hK22 ?_
 refine CW.seq fun K36 hK36 => ?_
 refine CW.region ?_
 refine WR.batch 6 [(6, pt g12 0), (17, .int .u64 (gMin x24 x28)), (20, .int .u64 (gMax x24 x28))] (by kernel_rfl) ?_
 obtain ⟨x37, hx38⟩ : ∃ x, law11_of (gMin x24 x28) (gMax x24 x28) = x := ⟨_, rfl⟩
 have hs40 := letS hx38 hs31
 have hx39 : IU64 x37.Lo ∧ IU64 x37.Hi := by rw [← hx38]; exact law11_of_ok (gMin x24 x28) (gMax x24 x28) (gMin_rng (by omega) (by omega)) (gMax_rng (by omega) (by omega)) 
 refine WR.call (dst := some 21) (by kernel_rfl) (retE (g := TSpan.v) hx38 (law11_of_any (gMin x24 x28) (gMax x24 x28) w32  (gMin_rng (by omega) (by omega)) (gMax_rng (by omega) (by omega)) )) ?_
 rintro _ w41 hc42 rfl
 have hz44 := hc42.size
 have hC43 := hC34.pure hc42
 have hb48 := (hb15.pure hc33).pure hc42
 refine WR.store (t := 25) (o := 0) (v := .agg #[.int .u64 x37.Lo, .int .u64 x37.Hi]) hb48 (by kernel_rfl) #[.int .u64 x37.Lo, .int .u64 x37.Hi] (by kernel_rfl) ?_
 intro w45 hb46 hc47
 have hz50 := hc47.size
 have hC49 := hC43.step1 hc47 (by omega)
 refine WR.fin (by kernel_rfl) ?_
 refine go hK36 ?_
 refine CW.ret ?_
 exact retC [.agg #[.int .u64 x37.Lo, .int .u64 x37.Hi]] _ rfl ⟨resCell hb46 rfl (by kernel_rfl), trivial⟩ (⟨hC49, (congrArg TSpan.v hs40).symm⟩)

/-- what Pick tells. -/
def pickE (x n : Int) : Int := if n < 1 then 0 else if x.tmod n < 0 then x.tmod n + n else x.tmod n
theorem pickE_bd (x n : Int) (h : 1 ≤ n) : 0 ≤ pickE x n ∧ pickE x n < n := by
  have h1 := Int.tmod_lt_of_pos x (b := n) (by omega)
  have h2 : -n < x.tmod n := by
    have := Int.lt_tmod_of_pos x (b := n) (by omega)
    omega
  unfold pickE
  split
  · omega
  · split <;> omega

theorem pick_any (x n : Int) (w : World) (_hn : -9223372036854775808 ≤ n ∧ n ≤ 9223372036854775807) : Calls Try.prog 52 #[.int .i64 x, .int .i64 n] w (RetV w (.int .i64 (pickE x n))) := by
 refine calls_of_CW Try.func52 rfl (n := 16) Try.ntmps52 (by kernel_rfl) [0, 1] (F := [(0, .int .i64 x), (1, .int .i64 n)]) (by kernel_rfl) ?_
 refine CW.seq fun K1 hK1 => ?_
 refine CW.region ?_
 refine WR.batch 1 [(0, .int .i64 x), (1, .int .i64 n)] (by kernel_rfl) ?_
 refine WR.fin (by kernel_rfl) ?_
 refine go hK1 ?_
 refine CW.seq fun K2 hK2 => ?_
 refine CW.seq fun K3 hK3 => ?_
 refine CW.region ?_
 refine WR.batch 2 [(0, .int .i64 x), (1, .int .i64 n), (6, .bool (decide (n < (1 : Int))))] (by kernel_rfl) ?_
 refine WR.fin (by kernel_rfl) ?_
 refine go hK3 ?_
 refine CW.cond (decide (n < (1 : Int))) (by kernel_rfl) (fun ht4 => ?_) (fun ht4 => ?_)
 ·
  replace ht4 : n < (1 : Int) := (of_decide_eq_true ht4)
  refine CW.seq fun K5 hK5 => ?_
  refine CW.region ?_
  refine WR.batch 1 [(4, .int .i64 0)] (by kernel_rfl) ?_
  refine WR.fin (by kernel_rfl) ?_
  refine go hK5 ?_
  refine CW.ret ?_
  exact retV (.int .i64 0) (by kernel_rfl) ⟨(Chg.refl _ _), by simp only [pickE]; grind⟩
 replace ht4 : ¬ (n < (1 : Int)) := (of_decide_eq_false ht4)
 have hb1 := Int.tmod_lt_of_pos x (b := n) (by omega)
 have hb2 := Int.lt_tmod_of_pos x (b := n) (by omega)
 refine CW.skip ?_
 refine go hK2 ?_
 refine CW.seq fun K6 hK6 => ?_
 refine CW.region ?_
 refine WR.batch 2 [(1, .int .i64 n), (7, .int .i64 x), (8, .int .i64 n)] (by kernel_rfl) ?_
 refine WR.rem (dst := some 9) (kk := .i64) (x := x) (y := n) (by kernel_rfl) (by omega) ?_
 refine WR.batch 1 [(0, .int .i64 ((x).tmod n)), (1, .int .i64 n)] (by kernel_rfl) ?_
 refine WR.fin (by kernel_rfl) ?_
 refine go hK6 ?_
 refine CW.seq fun K7 hK7 => ?_
 refine CW.seq fun K8 hK8 => ?_
 refine CW.region ?_
 refine WR.batch 2 [(0, .int .i64 ((x).tmod n)), (1, .int .i64 n), (11, .bool (decide (((x).tmod n) < (0 : Int))))] (by kernel_rfl) ?_
 refine WR.fin (by kernel_rfl) ?_
 refine go hK8 ?_
 refine CW.cond (decide (((x).tmod n) < (0 : Int))) (by kernel_rfl) (fun ht9 => ?_) (fun ht9 => ?_)
 ·
  replace ht9 : ((x).tmod n) < (0 : Int) := (of_decide_eq_true ht9)
  refine CW.region ?_
  refine WR.batch 3 [(14, .int .i64 (IntKind.i64.wrap (((x).tmod n) + n)))] (by kernel_rfl) ?_
  have hw10 : IntKind.i64.wrap (((x).tmod n) + n) = (((x).tmod n) + n) := IntWalk.i64_in _ (by omega)
  refine WR.eqF (F' := [(14, .int .i64 (((x).tmod n) + n))]) (by rw [hw10]) ?_
  refine WR.batch 1 [(0, .int .i64 (((x).tmod n) + n))] (by kernel_rfl) ?_
  refine WR.fin (by kernel_rfl) ?_
  refine go hK7 ?_
  refine CW.seq fun K11 hK11 => ?_
  refine CW.region ?_
  refine WR.batch 2 [(4, .int .i64 (((x).tmod n) + n))] (by kernel_rfl) ?_
  refine WR.fin (by kernel_rfl) ?_
  refine go hK11 ?_
  refine CW.ret ?_
  exact retV (.int .i64 (((x).tmod n) + n)) (by kernel_rfl) ⟨(Chg.refl _ _), by simp only [pickE]; grind⟩
 replace ht9 : ¬ (((x).tmod n) < (0 : Int)) := (of_decide_eq_false ht9)
 refine CW.skip ?_
 refine go hK7 ?_
 refine CW.seq fun K12 hK12 => ?_
 refine CW.region ?_
 refine WR.batch 2 [(4, .int .i64 ((x).tmod n))] (by kernel_rfl) ?_
 refine WR.fin (by kernel_rfl) ?_
 refine go hK12 ?_
 refine CW.ret ?_
 exact retV (.int .i64 ((x).tmod n)) (by kernel_rfl) ⟨(Chg.refl _ _), by simp only [pickE]; grind⟩

def law11_pick (a0 : Int)  : (Int × Int) := ((IntKind.u8.wrap ((1 : Int) + (IntKind.u8.wrap (pickE a0 (13 : Int))))), (IntKind.u8.wrap ((17 : Int) + (IntKind.u8.wrap (pickE a0 (11 : Int))))))

theorem law11_pick_ok (a0 : Int)  (_h_a0 : II64 a0)  : IU8 (law11_pick a0).1 ∧ IU8 (law11_pick a0).2 := by
 rw [law11_pick.eq_1]
 exact (by exact (show IU8 (IntKind.u8.wrap ((1 : Int) + (IntKind.u8.wrap (pickE a0 (13 : Int))))) ∧ IU8 (IntKind.u8.wrap ((17 : Int) + (IntKind.u8.wrap (pickE a0 (11 : Int))))) from ⟨(wrapU8 _), (wrapU8 _)⟩))

theorem law11_pick_any (a0 : Int)   (w : World)  (_h_a0 : II64 a0)  : Calls Try.prog 15 #[.int .i64 a0] w (RetV w (.tuple #[.int .u8 (law11_pick a0).1, .int .u8 (law11_pick a0).2])) := by
 have hs := law11_pick.eq_1 a0
 refine calls_of_CW Try.func15 rfl (n := 12) Try.ntmps15 (by kernel_rfl) [0] (F := [(0, .int .i64 a0)]) (by kernel_rfl) ?_
 refine CW.seq fun K1 hK1 => ?_
 refine CW.region ?_
 refine WR.batch 2 [(0, .int .i64 a0)] (by kernel_rfl) ?_
 refine WR.fin (by kernel_rfl) ?_
 refine go hK1 ?_
 refine CW.seq fun K2 hK2 => ?_
 refine CW.region ?_
 refine WR.batch 1 [(0, .int .i64 a0), (4, .int .i64 a0)] (by kernel_rfl) ?_
 refine WR.call (dst := some 5) (by kernel_rfl) (pick_any a0 (13 : Int) w (by omega)) ?_
 rintro _ w3 hc4 rfl
 have hz6 := hc4.size
 have hC5 := (Chg.refl [] w).pure hc4
 have hpk7 := pickE_bd a0 (13 : Int) (by omega)
 refine WR.batch 3 [(7, .int .u8 (IntKind.u8.wrap ((1 : Int) + (IntKind.u8.wrap (pickE a0 (13 : Int)))))), (8, .int .i64 a0)] (by kernel_rfl) ?_
 refine WR.call (dst := some 9) (by kernel_rfl) (pick_any a0 (11 : Int) w3 (by omega)) ?_
 rintro _ w8 hc9 rfl
 have hz11 := hc9.size
 have hC10 := hC5.pure hc9
 have hpk12 := pickE_bd a0 (11 : Int) (by omega)
 refine WR.batch 4 [(2, .int .u8 (IntKind.u8.wrap ((1 : Int) + (IntKind.u8.wrap (pickE a0 (13 : Int)))))), (3, .int .u8 (IntKind.u8.wrap ((17 : Int) + (IntKind.u8.wrap (pickE a0 (11 : Int))))))] (by kernel_rfl) ?_
 refine WR.fin (by kernel_rfl) ?_
 refine go hK2 ?_
 refine CW.ret ?_
 exact retV (.tuple #[.int .u8 (IntKind.u8.wrap ((1 : Int) + (IntKind.u8.wrap (pickE a0 (13 : Int))))), .int .u8 (IntKind.u8.wrap ((17 : Int) + (IntKind.u8.wrap (pickE a0 (11 : Int)))))]) (by kernel_rfl) (⟨hC10, (congrArg (fun r : (Int × Int) => (.tuple #[.int .u8 r.1, .int .u8 r.2] : Value)) hs).symm⟩)
end Go.V
