import Derived.Test.YtjiagljaipadmaaProg
import Derived.Test.YtjiagljaipadmaaR0
namespace Go.V
open Go.RowKit Go.Proofs
def ref11_cut (a0 : TSpan) (a1 : Bool)  : TSpan := (if (!a1) then a0 else (if ((sShr .u64 a0.Lo (32 : Int)) != (sShr .u64 a0.Hi (32 : Int))) then (letF (ref11_All true) fun x40 => x40) else (⟨(bAnd .u64 a0.Lo (4294967295 : Int)), (bAnd .u64 a0.Hi (4294967295 : Int))⟩ : TSpan)))

theorem ref11_cut_ok (a0 : TSpan) (a1 : Bool)  (_h_a0 : IU64 a0.Lo ∧ IU64 a0.Hi)  : IU64 (ref11_cut a0 a1).Lo ∧ IU64 (ref11_cut a0 a1).Hi := by
 rw [ref11_cut.eq_1]
 refine iteR (p := fun r : TSpan => IU64 r.Lo ∧ IU64 r.Hi) (fun hi1001 => ?_) (fun hi1001 => ?_)
 ·
  replace hi1001 : a1 = false := (bNotT hi1001)
  exact (by exact (show IU64 a0.Lo ∧ IU64 a0.Hi from ⟨(by omega), (by omega)⟩))
 replace hi1001 : a1 = true := (bNotF hi1001)
 refine iteR (p := fun r : TSpan => IU64 r.Lo ∧ IU64 r.Hi) (fun hi1002 => ?_) (fun hi1002 => ?_)
 ·
  replace hi1002 : (sShr .u64 a0.Lo (32 : Int)) ≠ (sShr .u64 a0.Hi (32 : Int)) := (bNeT hi1002)
  refine letR (p := fun r : TSpan => IU64 r.Lo ∧ IU64 r.Hi) fun x40 hx41 => ?_
  have hx42 : IU64 x40.Lo ∧ IU64 x40.Hi := by rw [← hx41]; exact ref11_All_ok true 
  exact (by exact (show IU64 x40.Lo ∧ IU64 x40.Hi from ⟨(by omega), (by omega)⟩))
 replace hi1002 : (sShr .u64 a0.Lo (32 : Int)) = (sShr .u64 a0.Hi (32 : Int)) := (bNeF hi1002)
 exact (by exact (show IU64 (bAnd .u64 a0.Lo (4294967295 : Int)) ∧ IU64 (bAnd .u64 a0.Hi (4294967295 : Int)) from ⟨(wrapU64 _), (wrapU64 _)⟩))

theorem ref11_cut_any (a0 : TSpan) (a1 : Bool)   (w : World)  (_h_a0 : IU64 a0.Lo ∧ IU64 a0.Hi)  : Calls Try.prog 67 #[.agg #[.int .u64 a0.Lo, .int .u64 a0.Hi], .bool a1] w (RetV w (TSpan.v (ref11_cut a0 a1))) := by
 have hs := ref11_cut.eq_1 a0 a1
 refine calls_of_CW Try.func67 rfl (n := 23) Try.ntmps67 (by kernel_rfl) [0, 1] (F := [(0, .agg #[.int .u64 a0.Lo, .int .u64 a0.Hi]), (1, .bool a1)]) (by kernel_rfl) ?_
 refine CW.seq fun K1 hK1 => ?_
 refine CW.region ?_
 refine WR.box (dst := some 2) (e := 25) (v := .agg #[.int .u64 a0.Lo, .int .u64 a0.Hi]) (by kernel_rfl) #[.int .u64 a0.Lo, .int .u64 a0.Hi] (by kernel_rfl) ?_
 intro g2 w3 hN4
 have hf6 : w.heap.size ≤ g2 := hN4.fresh
 have hfr8 := hN4.fresh
 have hc7 := hN4.chg
 have hz10 := hc7.size
 have hC9 := (Chg.refl [] w).pure hc7
 have hb5 := hN4.blk
 have hg11 := hb5.lt
 refine WR.alloc (dst := some 4) (e := 25) (by kernel_rfl) #[.int .u64 0, .int .u64 0] (by kernel_rfl) ?_
 intro g12 w13 hN14
 have hf16 : w.heap.size ≤ g12 := Nat.le_trans hC9.size hN14.fresh
 have hfr18 := hN14.fresh
 have hc17 := hN14.chg
 have hz20 := hc17.size
 have hC19 := hC9.pure hc17
 have hb15 := hN14.blk
 have hg21 := hb15.lt
 refine WR.fin (by kernel_rfl) ?_
 refine go hK1 ?_
 refine CW.seq fun K22 hK22 => ?_
 refine CW.seq fun K23 hK23 => ?_
 refine CW.region ?_
 refine WR.batch 2 [(2, pt g2 0), (4, pt g12 0), (6, .bool (!a1))] (by kernel_rfl) ?_
 refine WR.fin (by kernel_rfl) ?_
 refine go hK23 ?_
 refine CW.cond ((!a1)) (by kernel_rfl) (fun ht24 => ?_) (fun ht24 => ?_)
 ·
  have hs25 := ifT ht24 hs
  replace ht24 : a1 = false := (bNotT ht24)
  refine CW.seq fun K26 hK26 => ?_
  refine CW.region ?_
  have hb27 := hb5.pure hc17
  refine WR.load (dst := some 7) (t := 25) (o := 0) hb27 (by kernel_rfl) (.agg #[.int .u64 a0.Lo, .int .u64 a0.Hi]) (by kernel_rfl) ?_
  refine WR.store (t := 25) (o := 0) (v := .agg #[.int .u64 a0.Lo, .int .u64 a0.Hi]) hb15 (by kernel_rfl) #[.int .u64 a0.Lo, .int .u64 a0.Hi] (by kernel_rfl) ?_
  intro w28 hb29 hc30
  have hz32 := hc30.size
  have hC31 := hC19.step1 hc30 (by omega)
  refine WR.fin (by kernel_rfl) ?_
  refine go hK26 ?_
  refine CW.ret ?_
  exact retC [.agg #[.int .u64 a0.Lo, .int .u64 a0.Hi]] _ rfl ⟨resCell hb29 rfl (by kernel_rfl), trivial⟩ (⟨hC31, (congrArg TSpan.v hs25).symm⟩)
 have hs33 := ifF ht24 hs
 replace ht24 : a1 = true := (bNotF ht24)
 refine CW.skip ?_
 refine go hK22 ?_
 refine CW.seq fun K34 hK34 => ?_
 refine CW.seq fun K35 hK35 => ?_
 refine CW.region ?_
 refine WR.batch 1 [(2, pt g2 0), (4, pt g12 0), (8, pt g2 0)] (by kernel_rfl) ?_
 have hb36 := hb5.pure hc17
 refine WR.load (dst := some 9) (t := 23) (o := 0) hb36 (by kernel_rfl) (.int .u64 a0.Lo) (by kernel_rfl) ?_
 refine WR.batch 2 [(2, pt g2 0), (4, pt g12 0), (10, .int .u64 (sShr .u64 a0.Lo (32 : Int))), (11, pt g2 1)] (by kernel_rfl) ?_
 refine WR.load (dst := some 12) (t := 23) (o := 1) hb36 (by kernel_rfl) (.int .u64 a0.Hi) (by kernel_rfl) ?_
 refine WR.batch 2 [(2, pt g2 0), (4, pt g12 0), (14, .bool ((sShr .u64 a0.Lo (32 : Int)) != (sShr .u64 a0.Hi (32 : Int))))] (by kernel_rfl) ?_
 refine WR.fin (by kernel_rfl) ?_
 refine go hK35 ?_
 refine CW.cond (((sShr .u64 a0.Lo (32 : Int)) != (sShr .u64 a0.Hi (32 : Int)))) (by kernel_rfl) (fun ht37 => ?_) (fun ht37 => ?_)
 ·
  have hs38 := ifT ht37 hs33
  replace ht37 : (sShr .u64 a0.Lo (32 : Int)) ≠ (sShr .u64 a0.Hi (32 : Int)) := (bNeT ht37)
  refine CW.seq fun K39 hK39 => ?_
  refine CW.region ?_
  obtain ⟨x40, hx41⟩ : ∃ x, ref11_All true = x := ⟨_, rfl⟩
  have hs43 := letS hx41 hs38
  have hx42 : IU64 x40.Lo ∧ IU64 x40.Hi := by rw [← hx41]; exact ref11_All_ok true 
  refine WR.call (dst := some 15) (by kernel_rfl) (retE (g := TSpan.v) hx41 (ref11_All_any true w13  )) ?_
  rintro _ w44 hc45 rfl
  have hz47 := hc45.size
  have hC46 := hC19.pure hc45
  have hb51 := hb15.pure hc45
  refine WR.store (t := 25) (o := 0) (v := .agg #[.int .u64 x40.Lo, .int .u64 x40.Hi]) hb51 (by kernel_rfl) #[.int .u64 x40.Lo, .int .u64 x40.Hi] (by kernel_rfl) ?_
  intro w48 hb49 hc50
  have hz53 := hc50.size
  have hC52 := hC46.step1 hc50 (by omega)
  refine WR.fin (by kernel_rfl) ?_
  refine go hK39 ?_
  refine CW.ret ?_
  exact retC [.agg #[.int .u64 x40.Lo, .int .u64 x40.Hi]] _ rfl ⟨resCell hb49 rfl (by kernel_rfl), trivial⟩ (⟨hC52, (congrArg TSpan.v hs43).symm⟩)
 have hs54 := ifF ht37 hs33
 replace ht37 : (sShr .u64 a0.Lo (32 : Int)) = (sShr .u64 a0.Hi (32 : Int)) := (bNeF ht37)
 refine CW.skip ?_
 refine go hK34 ?_
 refine CW.seq fun K55 hK55 => ?_
 refine CW.region ?_
 refine WR.batch 1 [(2, pt g2 0), (4, pt g12 0), (16, pt g2 0)] (by kernel_rfl) ?_
 refine WR.load (dst := some 17) (t := 23) (o := 0) hb36 (by kernel_rfl) (.int .u64 a0.Lo) (by kernel_rfl) ?_
 refine WR.batch 2 [(4, pt g12 0), (18, .int .u64 (bAnd .u64 a0.Lo (4294967295 : Int))), (19, pt g2 1)] (by kernel_rfl) ?_
 refine WR.load (dst := some 20) (t := 23) (o := 1) hb36 (by kernel_rfl) (.int .u64 a0.Hi) (by kernel_rfl) ?_
 refine WR.batch 2 [(4, pt g12 0), (22, .agg #[.int .u64 (bAnd .u64 a0.Lo (4294967295 : Int)), .int .u64 (bAnd .u64 a0.Hi (4294967295 : Int))])] (by kernel_rfl) ?_
 refine WR.store (t := 25) (o := 0) (v := .agg #[.int .u64 (bAnd .u64 a0.Lo (4294967295 : Int)), .int .u64 (bAnd .u64 a0.Hi (4294967295 : Int))]) hb15 (by kernel_rfl) #[.int .u64 (bAnd .u64 a0.Lo (4294967295 : Int)), .int .u64 (bAnd .u64 a0.Hi (4294967295 : Int))] (by kernel_rfl) ?_
 intro w56 hb57 hc58
 have hz60 := hc58.size
 have hC59 := hC19.step1 hc58 (by omega)
 refine WR.fin (by kernel_rfl) ?_
 refine go hK55 ?_
 refine CW.ret ?_
 exact retC [.agg #[.int .u64 (bAnd .u64 a0.Lo (4294967295 : Int)), .int .u64 (bAnd .u64 a0.Hi (4294967295 : Int))]] _ rfl ⟨resCell hb57 rfl (by kernel_rfl), trivial⟩ (⟨hC59, (congrArg TSpan.v hs54).symm⟩)

def ref11_below (a0 : Int) (a1 : Bool)  : Bool := (if a1 then ((bAnd .u64 (sShr .u64 a0 (31 : Int)) (1 : Int)) == (1 : Int)) else ((sShr .u64 a0 (63 : Int)) == (1 : Int)))

theorem ref11_below_any (a0 : Int) (a1 : Bool)   (w : World)  (_h_a0 : IU64 a0)  : Calls Try.prog 124 #[.int .u64 a0, .bool a1] w (RetV w (.bool (ref11_below a0 a1))) := by
 have hs := ref11_below.eq_1 a0 a1
 refine calls_of_CW Try.func124 rfl (n := 13) Try.ntmps124 (by kernel_rfl) [0, 1] (F := [(0, .int .u64 a0), (1, .bool a1)]) (by kernel_rfl) ?_
 refine CW.seq fun K1 hK1 => ?_
 refine CW.region ?_
 refine WR.batch 1 [(0, .int .u64 a0), (1, .bool a1)] (by kernel_rfl) ?_
 refine WR.fin (by kernel_rfl) ?_
 refine go hK1 ?_
 refine CW.seq fun K2 hK2 => ?_
 refine CW.seq fun K3 hK3 => ?_
 refine CW.region ?_
 refine WR.batch 1 [(0, .int .u64 a0), (5, .bool a1)] (by kernel_rfl) ?_
 refine WR.fin (by kernel_rfl) ?_
 refine go hK3 ?_
 refine CW.cond (a1) (by kernel_rfl) (fun ht4 => ?_) (fun ht4 => ?_)
 ·
  have hs5 := ifT ht4 hs
  refine CW.seq fun K6 hK6 => ?_
  refine CW.region ?_
  refine WR.batch 5 [(4, .bool ((bAnd .u64 (sShr .u64 a0 (31 : Int)) (1 : Int)) == (1 : Int)))] (by kernel_rfl) ?_
  refine WR.fin (by kernel_rfl) ?_
  refine go hK6 ?_
  refine CW.ret ?_
  exact retV (.bool ((bAnd .u64 (sShr .u64 a0 (31 : Int)) (1 : Int)) == (1 : Int))) (by kernel_rfl) (⟨(Chg.refl _ _), (congrArg (fun r : Bool => (.bool r : Value)) hs5).symm⟩)
 have hs7 := ifF ht4 hs
 refine CW.skip ?_
 refine go hK2 ?_
 refine CW.seq fun K8 hK8 => ?_
 refine CW.region ?_
 refine WR.batch 4 [(4, .bool ((sShr .u64 a0 (63 : Int)) == (1 : Int)))] (by kernel_rfl) ?_
 refine WR.fin (by kernel_rfl) ?_
 refine go hK8 ?_
 refine CW.ret ?_
 exact retV (.bool ((sShr .u64 a0 (63 : Int)) == (1 : Int))) (by kernel_rfl) (⟨(Chg.refl _ _), (congrArg (fun r : Bool => (.bool r : Value)) hs7).symm⟩)

def ref11_bits (a0 : Bool)  : Int := (if a0 then (32 : Int) else (64 : Int))

theorem ref11_bits_ok (a0 : Bool)    : IU64 (ref11_bits a0) := by
 rw [ref11_bits.eq_1]
 refine iteR (p := fun r : Int => IU64 r) (fun hi1001 => ?_) (fun hi1001 => ?_)
 ·
  exact (by exact (show IU64 (32 : Int) from (by omega)))
 exact (by exact (show IU64 (64 : Int) from (by omega)))

theorem ref11_bits_any (a0 : Bool)   (w : World)    : Calls Try.prog 122 #[.bool a0] w (RetV w (.int .u64 (ref11_bits a0))) := by
 have hs := ref11_bits.eq_1 a0
 refine calls_of_CW Try.func122 rfl (n := 4) Try.ntmps122 (by kernel_rfl) [0] (F := [(0, .bool a0)]) (by kernel_rfl) ?_
 refine CW.seq fun K1 hK1 => ?_
 refine CW.region ?_
 refine WR.batch 1 [(0, .bool a0)] (by kernel_rfl) ?_
 refine WR.fin (by kernel_rfl) ?_
 refine go hK1 ?_
 refine CW.seq fun K2 hK2 => ?_
 refine CW.seq fun K3 hK3 => ?_
 refine CW.region ?_
 refine WR.batch 1 [(3, .bool a0)] (by kernel_rfl) ?_
 refine WR.fin (by kernel_rfl) ?_
 refine go hK3 ?_
 refine CW.cond (a0) (by kernel_rfl) (fun ht4 => ?_) (fun ht4 => ?_)
 ·
  have hs5 := ifT ht4 hs
  refine CW.seq fun K6 hK6 => ?_
  refine CW.region ?_
  refine WR.batch 1 [(2, .int .u64 32)] (by kernel_rfl) ?_
  refine WR.fin (by kernel_rfl) ?_
  refine go hK6 ?_
  refine CW.ret ?_
  exact retV (.int .u64 32) (by kernel_rfl) (⟨(Chg.refl _ _), (congrArg (fun r : Int => (.int .u64 r : Value)) hs5).symm⟩)
 have hs7 := ifF ht4 hs
 refine CW.skip ?_
 refine go hK2 ?_
 refine CW.seq fun K8 hK8 => ?_
 refine CW.region ?_
 refine WR.batch 1 [(2, .int .u64 64)] (by kernel_rfl) ?_
 refine WR.fin (by kernel_rfl) ?_
 refine go hK8 ?_
 refine CW.ret ?_
 exact retV (.int .u64 64) (by kernel_rfl) (⟨(Chg.refl _ _), (congrArg (fun r : Int => (.int .u64 r : Value)) hs7).symm⟩)

def ref11_parts (a0 : Int) (a1 : TSpan) (a2 : TSpan)  : TSpan := (if (a0 == (4 : Int)) then (⟨(IntKind.u64.wrap ((a1.Lo).tdiv (gMax a2.Hi (1 : Int)))), (IntKind.u64.wrap ((a1.Hi).tdiv (gMax a2.Lo (1 : Int))))⟩ : TSpan) else (if decide (a1.Hi < (gMax a2.Lo (1 : Int))) then a1 else (⟨(0 : Int), (gMin a1.Hi (IntKind.u64.wrap ((gMax a2.Hi (1 : Int)) - (1 : Int))))⟩ : TSpan)))

theorem ref11_parts_ok (a0 : Int) (a1 : TSpan) (a2 : TSpan)  (_h_a0 : IU8 a0) (_h_a1 : IU64 a1.Lo ∧ IU64 a1.Hi) (_h_a2 : IU64 a2.Lo ∧ IU64 a2.Hi)  : IU64 (ref11_parts a0 a1 a2).Lo ∧ IU64 (ref11_parts a0 a1 a2).Hi := by
 rw [ref11_parts.eq_1]
 refine iteR (p := fun r : TSpan => IU64 r.Lo ∧ IU64 r.Hi) (fun hi1001 => ?_) (fun hi1001 => ?_)
 ·
  replace hi1001 : a0 = (4 : Int) := (bEqT hi1001)
  exact (by exact (show IU64 (IntKind.u64.wrap ((a1.Lo).tdiv (gMax a2.Hi (1 : Int)))) ∧ IU64 (IntKind.u64.wrap ((a1.Hi).tdiv (gMax a2.Lo (1 : Int)))) from ⟨(wrapU64 _), (wrapU64 _)⟩))
 replace hi1001 : a0 ≠ (4 : Int) := (bEqF hi1001)
 refine iteR (p := fun r : TSpan => IU64 r.Lo ∧ IU64 r.Hi) (fun hi1002 => ?_) (fun hi1002 => ?_)
 ·
  replace hi1002 : a1.Hi < (gMax a2.Lo (1 : Int)) := (of_decide_eq_true hi1002)
  exact (by exact (show IU64 a1.Lo ∧ IU64 a1.Hi from ⟨(by omega), (by omega)⟩))
 replace hi1002 : ¬ (a1.Hi < (gMax a2.Lo (1 : Int))) := (of_decide_eq_false hi1002)
 exact (by exact (show IU64 (0 : Int) ∧ IU64 (gMin a1.Hi (IntKind.u64.wrap ((gMax a2.Hi (1 : Int)) - (1 : Int)))) from ⟨(by omega), (gMin_rng (by omega) (wrapU64 _))⟩))

set_option maxRecDepth 100000 in
set_option maxHeartbeats 4000000 in
theorem ref11_parts_any (a0 : Int) (a1 : TSpan) (a2 : TSpan)   (w : World)  (_h_a0 : IU8 a0) (_h_a1 : IU64 a1.Lo ∧ IU64 a1.Hi) (_h_a2 : IU64 a2.Lo ∧ IU64 a2.Hi)  : Calls Try.prog 69 #[.int .u8 a0, .agg #[.int .u64 a1.Lo, .int .u64 a1.Hi], .agg #[.int .u64 a2.Lo, .int .u64 a2.Hi]] w (RetV w (TSpan.v (ref11_parts a0 a1 a2))) := by
 have hs := ref11_parts.eq_1 a0 a1 a2
 refine calls_of_CW Try.func69 rfl (n := 37) Try.ntmps69 (by kernel_rfl) [0, 1, 2] (F := [(0, .int .u8 a0), (1, .agg #[.int .u64 a1.Lo, .int .u64 a1.Hi]), (2, .agg #[.int .u64 a2.Lo, .int .u64 a2.Hi])]) (by kernel_rfl) ?_
 refine CW.seq fun K1 hK1 => ?_
 refine CW.region ?_
 refine WR.box (dst := some 4) (e := 25) (v := .agg #[.int .u64 a1.Lo, .int .u64 a1.Hi]) (by kernel_rfl) #[.int .u64 a1.Lo, .int .u64 a1.Hi] (by kernel_rfl) ?_
 intro g2 w3 hN4
 have hf6 : w.heap.size ≤ g2 := hN4.fresh
 have hfr8 := hN4.fresh
 have hc7 := hN4.chg
 have hz10 := hc7.size
 have hC9 := (Chg.refl [] w).pure hc7
 have hb5 := hN4.blk
 have hg11 := hb5.lt
 refine WR.box (dst := some 5) (e := 25) (v := .agg #[.int .u64 a2.Lo, .int .u64 a2.Hi]) (by kernel_rfl) #[.int .u64 a2.Lo, .int .u64 a2.Hi] (by kernel_rfl) ?_
 intro g12 w13 hN14
 have hf16 : w.heap.size ≤ g12 := Nat.le_trans hC9.size hN14.fresh
 have hfr18 := hN14.fresh
 have hc17 := hN14.chg
 have hz20 := hc17.size
 have hC19 := hC9.pure hc17
 have hb15 := hN14.blk
 have hg21 := hb15.lt
 refine WR.alloc (dst := some 6) (e := 25) (by kernel_rfl) #[.int .u64 0, .int .u64 0] (by kernel_rfl) ?_
 intro g22 w23 hN24
 have hf26 : w.heap.size ≤ g22 := Nat.le_trans hC19.size hN24.fresh
 have hfr28 := hN24.fresh
 have hc27 := hN24.chg
 have hz30 := hc27.size
 have hC29 := hC19.pure hc27
 have hb25 := hN24.blk
 have hg31 := hb25.lt
 refine WR.fin (by kernel_rfl) ?_
 refine go hK1 ?_
 refine CW.seq fun K32 hK32 => ?_
 refine CW.regionQ (by kernel_rfl) (by kernel_rfl) ?_
 refine WQ.val (dst := some 9) (pt g12 0) (fun _ => by kernel_rfl) ?_
 have hb33 := hb15.pure hc27
 refine WQ.load (dst := some 10) (t := 23) (o := 0) (fun _ hq => hb33.pure hq) (by kernel_rfl) (.int .u64 a2.Lo) (by kernel_rfl) ?_
 refine WQ.val (dst := some 11) (.int .u64 (gMax a2.Lo (1 : Int))) (fun _ => by kernel_rfl) ?_
 refine WQ.val (dst := some 12) (pt g12 1) (fun _ => by kernel_rfl) ?_
 refine WQ.load (dst := some 13) (t := 23) (o := 1) (fun _ hq => hb33.pure hq) (by kernel_rfl) (.int .u64 a2.Hi) (by kernel_rfl) ?_
 refine WQ.val (dst := some 14) (.int .u64 (gMax a2.Hi (1 : Int))) (fun _ => by kernel_rfl) ?_
 refine WQ.val (dst := some 7) (.int .u64 (gMax a2.Lo (1 : Int))) (fun _ => by kernel_rfl) ?_
 refine WQ.val (dst := some 8) (.int .u64 (gMax a2.Hi (1 : Int))) (fun _ => by kernel_rfl) ?_
 refine WQ.fin (by kernel_rfl) ?_
 intro w34 hc35
 have hz37 := hc35.size
 have hC36 := hC29.pure hc35
 refine go hK32 ?_
 refine CW.seq fun K38 hK38 => ?_
 refine CW.seq fun K39 hK39 => ?_
 refine CW.region ?_
 refine WR.batch 2 [(4, pt g2 0), (6, pt g22 0), (7, .int .u64 (gMax a2.Lo (1 : Int))), (8, .int .u64 (gMax a2.Hi (1 : Int))), (16, .bool (a0 == (4 : Int)))] (by kernel_rfl) ?_
 refine WR.fin (by kernel_rfl) ?_
 refine go hK39 ?_
 refine CW.cond ((a0 == (4 : Int))) (by kernel_rfl) (fun ht40 => ?_) (fun ht40 => ?_)
 ·
  have hs41 := ifT ht40 hs
  replace ht40 : a0 = (4 : Int) := (bEqT ht40)
  refine CW.seq fun K42 hK42 => ?_
  refine CW.keep [4, 6, 7, 8] (F' := [(4, pt g2 0), (6, pt g22 0), (7, .int .u64 (gMax a2.Lo (1 : Int))), (8, .int .u64 (gMax a2.Hi (1 : Int)))]) (by kernel_rfl) ?_
  refine CW.regionG 8 [some (pt g2 0), some (.int .u64 a1.Lo), some (.int .u64 (gMax a2.Hi (1 : Int))), some (.int .u64 (IntKind.u64.wrap ((a1.Lo).tdiv (gMax a2.Hi (1 : Int))))), some (pt g2 1), some (.int .u64 a1.Hi), some (.int .u64 (gMax a2.Lo (1 : Int))), some (.int .u64 (IntKind.u64.wrap ((a1.Hi).tdiv (gMax a2.Lo (1 : Int)))))] (fun u => [(17, pt g2 0), (18, .int .u64 a1.Lo), (19, .int .u64 (gMax a2.Hi (1 : Int))), (20, .int .u64 (IntKind.u64.wrap ((a1.Lo).tdiv (gMax a2.Hi (1 : Int))))), (21, pt g2 1), (22, .int .u64 a1.Hi), (23, .int .u64 (gMax a2.Lo (1 : Int))), (24, .int .u64 (IntKind.u64.wrap ((a1.Hi).tdiv (gMax a2.Lo (1 : Int))))), (4, pt g2 0), (6, pt g22 0), (7, .int .u64 (gMax a2.Lo (1 : Int))), (8, .int .u64 (gMax a2.Hi (1 : Int)))]) (fun _ => by kernel_rfl) (by kernel_rfl) [] (fun _ _ => True) (fun _ => trivial) (fun _ _ _ _ _ _ _ => trivial) [] [] (by kernel_rfl) (fun w' => Chg [] w34 w') (fun _ _ _ => True) (fun j x w hj h => absurd hj (by simp)) (by kernel_rfl) (by kernel_rfl) (by kernel_rfl) (by kernel_rfl) (Chg.drew w34) (fun _ _ _ h h' => h.step h' (fun t ht => .inl (cL_sub t ht))) (fun _ _ _ _ _ _ _ _ => trivial) (obsG_batch 1 0 7 (fun _ _ => by kernel_rfl) (by kernel_rfl) ⟨?_, (obsG_batch 1 2 5 (fun _ _ => by kernel_rfl) (by kernel_rfl) ⟨?_, (obsG_batch 1 4 3 (fun _ _ => by kernel_rfl) (by kernel_rfl) ⟨?_, (obsG_batch 1 6 1 (fun _ _ => by kernel_rfl) (by kernel_rfl) ⟨?_, trivial⟩)⟩)⟩)⟩) ?_
  ·
   intro u43 w44 hW45 _ hp46 hal47
   have hz50 := hW45.size
   have hC49 := hC36.pure hW45
   have hb51 := (((hb5.pure hc17).pure hc27).pure hc35).pure hW45
   refine WR.load (dst := some 18) (t := 23) (o := 0) hb51 (by kernel_rfl) (.int .u64 a1.Lo) (by kernel_rfl) ?_
   refine WR.fin (by kernel_rfl) ?_
   exact fun _ ha => ⟨Chg.refl _ _, _, ha, ⟨⟨fun h => absurd h (by decide), alNone (by decide)⟩, rfl⟩⟩
  ·
   intro u52 w53 hW54 _ hp55 hal56
   have hz59 := hW54.size
   have hC58 := hC36.pure hW54
   refine WR.valR (dst := some 20) (v := .int .u64 (IntKind.u64.wrap ((a1.Lo).tdiv (gMax a2.Hi (1 : Int))))) (w' := w53) (run_quo (kk := .u64) (x := a1.Lo) (y := (gMax a2.Hi (1 : Int))) (by kernel_rfl) (by simp only [gMax_eq]; omega) w53) ?_
   refine WR.fin (by kernel_rfl) ?_
   exact fun _ ha => ⟨Chg.refl _ _, _, ha, ⟨⟨fun h => absurd h (by decide), alNone (by decide)⟩, rfl⟩⟩
  ·
   intro u60 w61 hW62 _ hp63 hal64
   have hz67 := hW62.size
   have hC66 := hC36.pure hW62
   have hb68 := (((hb5.pure hc17).pure hc27).pure hc35).pure hW62
   refine WR.load (dst := some 22) (t := 23) (o := 1) hb68 (by kernel_rfl) (.int .u64 a1.Hi) (by kernel_rfl) ?_
   refine WR.fin (by kernel_rfl) ?_
   exact fun _ ha => ⟨Chg.refl _ _, _, ha, ⟨⟨fun h => absurd h (by decide), alNone (by decide)⟩, rfl⟩⟩
  ·
   intro u69 w70 hW71 _ hp72 hal73
   have hz76 := hW71.size
   have hC75 := hC36.pure hW71
   refine WR.valR (dst := some 24) (v := .int .u64 (IntKind.u64.wrap ((a1.Hi).tdiv (gMax a2.Lo (1 : Int))))) (w' := w70) (run_quo (kk := .u64) (x := a1.Hi) (y := (gMax a2.Lo (1 : Int))) (by kernel_rfl) (by simp only [gMax_eq]; omega) w70) ?_
   refine WR.fin (by kernel_rfl) ?_
   exact fun _ ha => ⟨Chg.refl _ _, _, ha, ⟨⟨fun h => absurd h (by decide), alNone (by decide)⟩, rfl⟩⟩
  intro u77 w78 hW79 _ _ _
  have hz84 := hW79.size
  have hC83 := hC36.pure hW79
  refine WR.keep [6, 20, 24] (F' := [(6, pt g22 0), (20, .int .u64 (IntKind.u64.wrap ((a1.Lo).tdiv (gMax a2.Hi (1 : Int))))), (24, .int .u64 (IntKind.u64.wrap ((a1.Hi).tdiv (gMax a2.Lo (1 : Int)))))]) (by kernel_rfl) ?_
  refine WR.batch 1 [(6, pt g22 0), (25, .agg #[.int .u64 (IntKind.u64.wrap ((a1.Lo).tdiv (gMax a2.Hi (1 : Int)))), .int .u64 (IntKind.u64.wrap ((a1.Hi).tdiv (gMax a2.Lo (1 : Int))))])] (by kernel_rfl) ?_
  have hb88 := (hb25.pure hc35).pure hW79
  refine WR.store (t := 25) (o := 0) (v := .agg #[.int .u64 (IntKind.u64.wrap ((a1.Lo).tdiv (gMax a2.Hi (1 : Int)))), .int .u64 (IntKind.u64.wrap ((a1.Hi).tdiv (gMax a2.Lo (1 : Int))))]) hb88 (by kernel_rfl) #[.int .u64 (IntKind.u64.wrap ((a1.Lo).tdiv (gMax a2.Hi (1 : Int)))), .int .u64 (IntKind.u64.wrap ((a1.Hi).tdiv (gMax a2.Lo (1 : Int))))] (by kernel_rfl) ?_
  intro w85 hb86 hc87
  have hz90 := hc87.size
  have hC89 := hC83.step1 hc87 (by omega)
  refine WR.fin (by kernel_rfl) ?_
  refine go hK42 ?_
  refine CW.ret ?_
  exact retC [.agg #[.int .u64 (IntKind.u64.wrap ((a1.Lo).tdiv (gMax a2.Hi (1 : Int)))), .int .u64 (IntKind.u64.wrap ((a1.Hi).tdiv (gMax a2.Lo (1 : Int))))]] _ rfl ⟨resCell hb86 rfl (by kernel_rfl), trivial⟩ (⟨hC89, (congrArg TSpan.v hs41).symm⟩)
 have hs91 := ifF ht40 hs
 replace ht40 : a0 ≠ (4 : Int) := (bEqF ht40)
 refine CW.skip ?_
 refine go hK38 ?_
 refine CW.seq fun K92 hK92 => ?_
 refine CW.seq fun K93 hK93 => ?_
 refine CW.region ?_
 refine WR.batch 1 [(4, pt g2 0), (6, pt g22 0), (7, .int .u64 (gMax a2.Lo (1 : Int))), (8, .int .u64 (gMax a2.Hi (1 : Int))), (26, pt g2 1)] (by kernel_rfl) ?_
 have hb94 := ((hb5.pure hc17).pure hc27).pure hc35
 refine WR.load (dst := some 27) (t := 23) (o := 1) hb94 (by kernel_rfl) (.int .u64 a1.Hi) (by kernel_rfl) ?_
 refine WR.batch 2 [(4, pt g2 0), (6, pt g22 0), (8, .int .u64 (gMax a2.Hi (1 : Int))), (29, .bool (decide (a1.Hi < (gMax a2.Lo (1 : Int)))))] (by kernel_rfl) ?_
 refine WR.fin (by kernel_rfl) ?_
 refine go hK93 ?_
 refine CW.cond (decide (a1.Hi < (gMax a2.Lo (1 : Int)))) (by kernel_rfl) (fun ht95 => ?_) (fun ht95 => ?_)
 ·
  have hs96 := ifT ht95 hs91
  replace ht95 : a1.Hi < (gMax a2.Lo (1 : Int)) := (of_decide_eq_true ht95)
  refine CW.seq fun K97 hK97 => ?_
  refine CW.region ?_
  refine WR.load (dst := some 30) (t := 25) (o := 0) hb94 (by kernel_rfl) (.agg #[.int .u64 a1.Lo, .int .u64 a1.Hi]) (by kernel_rfl) ?_
  have hb101 := hb25.pure hc35
  refine WR.store (t := 25) (o := 0) (v := .agg #[.int .u64 a1.Lo, .int .u64 a1.Hi]) hb101 (by kernel_rfl) #[.int .u64 a1.Lo, .int .u64 a1.Hi] (by kernel_rfl) ?_
  intro w98 hb99 hc100
  have hz103 := hc100.size
  have hC102 := hC36.step1 hc100 (by omega)
  refine WR.fin (by kernel_rfl) ?_
  refine go hK97 ?_
  refine CW.ret ?_
  exact retC [.agg #[.int .u64 a1.Lo, .int .u64 a1.Hi]] _ rfl ⟨resCell hb99 rfl (by kernel_rfl), trivial⟩ (⟨hC102, (congrArg TSpan.v hs96).symm⟩)
 have hs104 := ifF ht95 hs91
 replace ht95 : ¬ (a1.Hi < (gMax a2.Lo (1 : Int))) := (of_decide_eq_false ht95)
 refine CW.skip ?_
 refine go hK92 ?_
 refine CW.seq fun K105 hK105 => ?_
 refine CW.region ?_
 refine WR.batch 1 [(6, pt g22 0), (8, .int .u64 (gMax a2.Hi (1 : Int))), (31, pt g2 1)] (by kernel_rfl) ?_
 refine WR.load (dst := some 32) (t := 23) (o := 1) hb94 (by kernel_rfl) (.int .u64 a1.Hi) (by kernel_rfl) ?_
 refine WR.batch 4 [(6, pt g22 0), (36, .agg #[.int .u64 0, .int .u64 (gMin a1.Hi (IntKind.u64.wrap ((gMax a2.Hi (1 : Int)) - (1 : Int))))])] (by kernel_rfl) ?_
 have hb109 := hb25.pure hc35
 refine WR.store (t := 25) (o := 0) (v := .agg #[.int .u64 0, .int .u64 (gMin a1.Hi (IntKind.u64.wrap ((gMax a2.Hi (1 : Int)) - (1 : Int))))]) hb109 (by kernel_rfl) #[.int .u64 0, .int .u64 (gMin a1.Hi (IntKind.u64.wrap ((gMax a2.Hi (1 : Int)) - (1 : Int))))] (by kernel_rfl) ?_
 intro w106 hb107 hc108
 have hz111 := hc108.size
 have hC110 := hC36.step1 hc108 (by omega)
 refine WR.fin (by kernel_rfl) ?_
 refine go hK105 ?_
 refine CW.ret ?_
 exact retC [.agg #[.int .u64 0, .int .u64 (gMin a1.Hi (IntKind.u64.wrap ((gMax a2.Hi (1 : Int)) - (1 : Int))))]] _ rfl ⟨resCell hb107 rfl (by kernel_rfl), trivial⟩ (⟨hC110, (congrArg TSpan.v hs104).symm⟩)

def ref11_single (a0 : TSpan)  : Bool := (a0.Lo == a0.Hi)

theorem ref11_single_any (a0 : TSpan)   (w : World)  (_h_a0 : IU64 a0.Lo ∧ IU64 a0.Hi)  : Calls Try.prog 120 #[.agg #[.int .u64 a0.Lo, .int .u64 a0.Hi]] w (RetV w (.bool (ref11_single a0))) := by
 have hs := ref11_single.eq_1 a0
 refine calls_of_CW Try.func120 rfl (n := 8) Try.ntmps120 (by kernel_rfl) [0] (F := [(0, .agg #[.int .u64 a0.Lo, .int .u64 a0.Hi])]) (by kernel_rfl) ?_
 refine CW.seq fun K1 hK1 => ?_
 refine CW.region ?_
 refine WR.box (dst := some 1) (e := 25) (v := .agg #[.int .u64 a0.Lo, .int .u64 a0.Hi]) (by kernel_rfl) #[.int .u64 a0.Lo, .int .u64 a0.Hi] (by kernel_rfl) ?_
 intro g2 w3 hN4
 have hf6 : w.heap.size ≤ g2 := hN4.fresh
 have hfr8 := hN4.fresh
 have hc7 := hN4.chg
 have hz10 := hc7.size
 have hC9 := (Chg.refl [] w).pure hc7
 have hb5 := hN4.blk
 have hg11 := hb5.lt
 refine WR.batch 1 [(1, pt g2 0)] (by kernel_rfl) ?_
 refine WR.fin (by kernel_rfl) ?_
 refine go hK1 ?_
 refine CW.seq fun K12 hK12 => ?_
 refine CW.region ?_
 refine WR.batch 1 [(1, pt g2 0), (3, pt g2 0)] (by kernel_rfl) ?_
 refine WR.load (dst := some 4) (t := 23) (o := 0) hb5 (by kernel_rfl) (.int .u64 a0.Lo) (by kernel_rfl) ?_
 refine WR.batch 1 [(4, .int .u64 a0.Lo), (5, pt g2 1)] (by kernel_rfl) ?_
 refine WR.load (dst := some 6) (t := 23) (o := 1) hb5 (by kernel_rfl) (.int .u64 a0.Hi) (by kernel_rfl) ?_
 refine WR.batch 2 [(2, .bool (a0.Lo == a0.Hi))] (by kernel_rfl) ?_
 refine WR.fin (by kernel_rfl) ?_
 refine go hK12 ?_
 refine CW.ret ?_
 exact retV (.bool (a0.Lo == a0.Hi)) (by kernel_rfl) (⟨hC9, (congrArg (fun r : Bool => (.bool r : Value)) hs).symm⟩)

def ref11_sums (a0 : Int) (a1 : Int) (a2 : TSpan) (a3 : TSpan)  : (TSpan × Bool) := (if (a0 == (1 : Int)) then ((⟨(bAnd .u64 (IntKind.u64.wrap (a2.Lo + a3.Lo)) a1), (bAnd .u64 (IntKind.u64.wrap (a2.Hi + a3.Hi)) a1)⟩ : TSpan), ((decide (a3.Hi ≤ (IntKind.u64.wrap (a1 - a2.Hi)))) || (decide (a3.Lo > (IntKind.u64.wrap (a1 - a2.Lo)))))) else (if (a0 == (2 : Int)) then (if decide (a2.Lo ≥ a3.Hi) then ((⟨(bAnd .u64 (IntKind.u64.wrap (a2.Lo - a3.Hi)) a1), (bAnd .u64 (IntKind.u64.wrap (a2.Hi - a3.Lo)) a1)⟩ : TSpan), true) else ((⟨(bAnd .u64 (IntKind.u64.wrap (a2.Lo - a3.Hi)) a1), (bAnd .u64 (IntKind.u64.wrap (a2.Hi - a3.Lo)) a1)⟩ : TSpan), decide (a2.Hi < a3.Lo))) else (if (a0 == (3 : Int)) then (if (a3.Hi == (0 : Int)) then ((⟨(IntKind.u64.wrap (a2.Lo * a3.Lo)), (IntKind.u64.wrap (a2.Hi * a3.Hi))⟩ : TSpan), true) else ((⟨(IntKind.u64.wrap (a2.Lo * a3.Lo)), (IntKind.u64.wrap (a2.Hi * a3.Hi))⟩ : TSpan), decide (a2.Hi ≤ (IntKind.u64.wrap ((a1).tdiv a3.Hi))))) else (if (a2.Hi == (0 : Int)) then (a2, true) else ((⟨(bAnd .u64 (IntKind.u64.wrap ((0 : Int) - a2.Hi)) a1), (bAnd .u64 (IntKind.u64.wrap ((0 : Int) - a2.Lo)) a1)⟩ : TSpan), decide (a2.Lo > (0 : Int)))))))

theorem ref11_sums_ok (a0 : Int) (a1 : Int) (a2 : TSpan) (a3 : TSpan)  (_h_a0 : IU8 a0) (_h_a1 : IU64 a1) (_h_a2 : IU64 a2.Lo ∧ IU64 a2.Hi) (_h_a3 : IU64 a3.Lo ∧ IU64 a3.Hi)  : IU64 (ref11_sums a0 a1 a2 a3).1.Lo ∧ IU64 (ref11_sums a0 a1 a2 a3).1.Hi := by
 rw [ref11_sums.eq_1]
 refine iteR (p := fun r : (TSpan × Bool) => IU64 r.1.Lo ∧ IU64 r.1.Hi) (fun hi1001 => ?_) (fun hi1001 => ?_)
 ·
  replace hi1001 : a0 = (1 : Int) := (bEqT hi1001)
  exact (by exact (show IU64 (bAnd .u64 (IntKind.u64.wrap (a2.Lo + a3.Lo)) a1) ∧ IU64 (bAnd .u64 (IntKind.u64.wrap (a2.Hi + a3.Hi)) a1) from ⟨(wrapU64 _), (wrapU64 _)⟩))
 replace hi1001 : a0 ≠ (1 : Int) := (bEqF hi1001)
 refine iteR (p := fun r : (TSpan × Bool) => IU64 r.1.Lo ∧ IU64 r.1.Hi) (fun hi1002 => ?_) (fun hi1002 => ?_)
 ·
  replace hi1002 : a0 = (2 : Int) := (bEqT hi1002)
  refine iteR (p := fun r : (TSpan × Bool) => IU64 r.1.Lo ∧ IU64 r.1.Hi) (fun hi1003 => ?_) (fun hi1003 => ?_)
  ·
   replace hi1003 : a2.Lo ≥ a3.Hi := (of_decide_eq_true hi1003)
   exact (by exact (show IU64 (bAnd .u64 (IntKind.u64.wrap (a2.Lo - a3.Hi)) a1) ∧ IU64 (bAnd .u64 (IntKind.u64.wrap (a2.Hi - a3.Lo)) a1) from ⟨(wrapU64 _), (wrapU64 _)⟩))
  replace hi1003 : ¬ (a2.Lo ≥ a3.Hi) := (of_decide_eq_false hi1003)
  exact (by exact (show IU64 (bAnd .u64 (IntKind.u64.wrap (a2.Lo - a3.Hi)) a1) ∧ IU64 (bAnd .u64 (IntKind.u64.wrap (a2.Hi - a3.Lo)) a1) from ⟨(wrapU64 _), (wrapU64 _)⟩))
 replace hi1002 : a0 ≠ (2 : Int) := (bEqF hi1002)
 refine iteR (p := fun r : (TSpan × Bool) => IU64 r.1.Lo ∧ IU64 r.1.Hi) (fun hi1004 => ?_) (fun hi1004 => ?_)
 ·
  replace hi1004 : a0 = (3 : Int) := (bEqT hi1004)
  refine iteR (p := fun r : (TSpan × Bool) => IU64 r.1.Lo ∧ IU64 r.1.Hi) (fun hi1005 => ?_) (fun hi1005 => ?_)
  ·
   replace hi1005 : a3.Hi = (0 : Int) := (bEqT hi1005)
   exact (by exact (show IU64 (IntKind.u64.wrap (a2.Lo * a3.Lo)) ∧ IU64 (IntKind.u64.wrap (a2.Hi * a3.Hi)) from ⟨(wrapU64 _), (wrapU64 _)⟩))
  replace hi1005 : a3.Hi ≠ (0 : Int) := (bEqF hi1005)
  exact (by exact (show IU64 (IntKind.u64.wrap (a2.Lo * a3.Lo)) ∧ IU64 (IntKind.u64.wrap (a2.Hi * a3.Hi)) from ⟨(wrapU64 _), (wrapU64 _)⟩))
 replace hi1004 : a0 ≠ (3 : Int) := (bEqF hi1004)
 refine iteR (p := fun r : (TSpan × Bool) => IU64 r.1.Lo ∧ IU64 r.1.Hi) (fun hi1006 => ?_) (fun hi1006 => ?_)
 ·
  replace hi1006 : a2.Hi = (0 : Int) := (bEqT hi1006)
  exact (by exact (show IU64 a2.Lo ∧ IU64 a2.Hi from ⟨(by omega), (by omega)⟩))
 replace hi1006 : a2.Hi ≠ (0 : Int) := (bEqF hi1006)
 exact (by exact (show IU64 (bAnd .u64 (IntKind.u64.wrap ((0 : Int) - a2.Hi)) a1) ∧ IU64 (bAnd .u64 (IntKind.u64.wrap ((0 : Int) - a2.Lo)) a1) from ⟨(wrapU64 _), (wrapU64 _)⟩))

set_option maxRecDepth 100000 in
set_option maxHeartbeats 4000000 in
theorem ref11_sums_any (a0 : Int) (a1 : Int) (a2 : TSpan) (a3 : TSpan)   (w : World)  (_h_a0 : IU8 a0) (_h_a1 : IU64 a1) (_h_a2 : IU64 a2.Lo ∧ IU64 a2.Hi) (_h_a3 : IU64 a3.Lo ∧ IU64 a3.Hi)  : Calls Try.prog 68 #[.int .u8 a0, .int .u64 a1, .agg #[.int .u64 a2.Lo, .int .u64 a2.Hi], .agg #[.int .u64 a3.Lo, .int .u64 a3.Hi]] w (RetV w (.tuple #[TSpan.v (ref11_sums a0 a1 a2 a3).1, .bool (ref11_sums a0 a1 a2 a3).2])) := by
 have hs := ref11_sums.eq_1 a0 a1 a2 a3
 refine calls_of_CW Try.func68 rfl (n := 120) Try.ntmps68 (by kernel_rfl) [0, 1, 2, 3] (F := [(0, .int .u8 a0), (1, .int .u64 a1), (2, .agg #[.int .u64 a2.Lo, .int .u64 a2.Hi]), (3, .agg #[.int .u64 a3.Lo, .int .u64 a3.Hi])]) (by kernel_rfl) ?_
 refine CW.seq fun K1 hK1 => ?_
 refine CW.region ?_
 refine WR.box (dst := some 6) (e := 25) (v := .agg #[.int .u64 a2.Lo, .int .u64 a2.Hi]) (by kernel_rfl) #[.int .u64 a2.Lo, .int .u64 a2.Hi] (by kernel_rfl) ?_
 intro g2 w3 hN4
 have hf6 : w.heap.size ≤ g2 := hN4.fresh
 have hfr8 := hN4.fresh
 have hc7 := hN4.chg
 have hz10 := hc7.size
 have hC9 := (Chg.refl [] w).pure hc7
 have hb5 := hN4.blk
 have hg11 := hb5.lt
 refine WR.box (dst := some 7) (e := 25) (v := .agg #[.int .u64 a3.Lo, .int .u64 a3.Hi]) (by kernel_rfl) #[.int .u64 a3.Lo, .int .u64 a3.Hi] (by kernel_rfl) ?_
 intro g12 w13 hN14
 have hf16 : w.heap.size ≤ g12 := Nat.le_trans hC9.size hN14.fresh
 have hfr18 := hN14.fresh
 have hc17 := hN14.chg
 have hz20 := hc17.size
 have hC19 := hC9.pure hc17
 have hb15 := hN14.blk
 have hg21 := hb15.lt
 refine WR.alloc (dst := some 8) (e := 25) (by kernel_rfl) #[.int .u64 0, .int .u64 0] (by kernel_rfl) ?_
 intro g22 w23 hN24
 have hf26 : w.heap.size ≤ g22 := Nat.le_trans hC19.size hN24.fresh
 have hfr28 := hN24.fresh
 have hc27 := hN24.chg
 have hz30 := hc27.size
 have hC29 := hC19.pure hc27
 have hb25 := hN24.blk
 have hg31 := hb25.lt
 refine WR.batch 1 [(0, .int .u8 a0), (1, .int .u64 a1), (6, pt g2 0), (7, pt g12 0), (8, pt g22 0)] (by kernel_rfl) ?_
 refine WR.fin (by kernel_rfl) ?_
 refine go hK1 ?_
 refine CW.seq fun K32 hK32 => ?_
 refine CW.seq fun K33 hK33 => ?_
 refine CW.region ?_
 refine WR.batch 1 [(1, .int .u64 a1), (6, pt g2 0), (7, pt g12 0), (8, pt g22 0), (12, .int .u8 a0)] (by kernel_rfl) ?_
 refine WR.fin (by kernel_rfl) ?_
 refine go hK33 ?_
 refine CW.block ?_
 refine CW.seq fun K34 hK34 => ?_
 refine CW.region ?_
 refine WR.batch 2 [(1, .int .u64 a1), (6, pt g2 0), (7, pt g12 0), (8, pt g22 0), (12, .int .u8 a0), (13, .bool (a0 == (1 : Int)))] (by kernel_rfl) ?_
 refine WR.fin (by kernel_rfl) ?_
 refine go hK34 ?_
 refine CW.cond ((a0 == (1 : Int))) (by kernel_rfl) (fun ht35 => ?_) (fun ht35 => ?_)
 ·
  have hs36 := ifT ht35 hs
  replace ht35 : a0 = (1 : Int) := (bEqT ht35)
  refine CW.seq fun K37 hK37 => ?_
  refine CW.region ?_
  refine WR.batch 1 [(1, .int .u64 a1), (6, pt g2 0), (7, pt g12 0), (8, pt g22 0), (15, pt g12 1)] (by kernel_rfl) ?_
  have hb38 := hb15.pure hc27
  refine WR.load (dst := some 16) (t := 23) (o := 1) hb38 (by kernel_rfl) (.int .u64 a3.Hi) (by kernel_rfl) ?_
  refine WR.batch 2 [(1, .int .u64 a1), (6, pt g2 0), (7, pt g12 0), (8, pt g22 0), (16, .int .u64 a3.Hi), (17, .int .u64 a1), (18, pt g2 1)] (by kernel_rfl) ?_
  have hb39 := (hb5.pure hc17).pure hc27
  refine WR.load (dst := some 19) (t := 23) (o := 1) hb39 (by kernel_rfl) (.int .u64 a2.Hi) (by kernel_rfl) ?_
  refine WR.batch 3 [(1, .int .u64 a1), (6, pt g2 0), (7, pt g12 0), (8, pt g22 0), (10, .bool (decide (a3.Hi ≤ (IntKind.u64.wrap (a1 - a2.Hi)))))] (by kernel_rfl) ?_
  refine WR.fin (by kernel_rfl) ?_
  refine go hK37 ?_
  refine CW.seq fun K40 hK40 => ?_
  refine CW.region ?_
  refine WR.batch 1 [(1, .int .u64 a1), (6, pt g2 0), (7, pt g12 0), (8, pt g22 0), (10, .bool (decide (a3.Hi ≤ (IntKind.u64.wrap (a1 - a2.Hi))))), (22, pt g12 0)] (by kernel_rfl) ?_
  refine WR.load (dst := some 23) (t := 23) (o := 0) hb38 (by kernel_rfl) (.int .u64 a3.Lo) (by kernel_rfl) ?_
  refine WR.batch 2 [(1, .int .u64 a1), (6, pt g2 0), (7, pt g12 0), (8, pt g22 0), (10, .bool (decide (a3.Hi ≤ (IntKind.u64.wrap (a1 - a2.Hi))))), (23, .int .u64 a3.Lo), (24, .int .u64 a1), (25, pt g2 0)] (by kernel_rfl) ?_
  refine WR.load (dst := some 26) (t := 23) (o := 0) hb39 (by kernel_rfl) (.int .u64 a2.Lo) (by kernel_rfl) ?_
  refine WR.batch 3 [(1, .int .u64 a1), (6, pt g2 0), (7, pt g12 0), (8, pt g22 0), (10, .bool (decide (a3.Hi ≤ (IntKind.u64.wrap (a1 - a2.Hi))))), (11, .bool (decide (a3.Lo > (IntKind.u64.wrap (a1 - a2.Lo)))))] (by kernel_rfl) ?_
  refine WR.fin (by kernel_rfl) ?_
  refine go hK40 ?_
  refine CW.seq fun K41 hK41 => ?_
  refine CW.region ?_
  refine WR.batch 1 [(1, .int .u64 a1), (6, pt g2 0), (7, pt g12 0), (8, pt g22 0), (10, .bool (decide (a3.Hi ≤ (IntKind.u64.wrap (a1 - a2.Hi))))), (11, .bool (decide (a3.Lo > (IntKind.u64.wrap (a1 - a2.Lo))))), (29, pt g2 0)] (by kernel_rfl) ?_
  refine WR.load (dst := some 30) (t := 23) (o := 0) hb39 (by kernel_rfl) (.int .u64 a2.Lo) (by kernel_rfl) ?_
  refine WR.batch 1 [(1, .int .u64 a1), (6, pt g2 0), (7, pt g12 0), (8, pt g22 0), (10, .bool (decide (a3.Hi ≤ (IntKind.u64.wrap (a1 - a2.Hi))))), (11, .bool (decide (a3.Lo > (IntKind.u64.wrap (a1 - a2.Lo))))), (30, .int .u64 a2.Lo), (31, pt g12 0)] (by kernel_rfl) ?_
  refine WR.load (dst := some 32) (t := 23) (o := 0) hb38 (by kernel_rfl) (.int .u64 a3.Lo) (by kernel_rfl) ?_
  refine WR.batch 4 [(1, .int .u64 a1), (7, pt g12 0), (8, pt g22 0), (10, .bool (decide (a3.Hi ≤ (IntKind.u64.wrap (a1 - a2.Hi))))), (11, .bool (decide (a3.Lo > (IntKind.u64.wrap (a1 - a2.Lo))))), (35, .int .u64 (bAnd .u64 (IntKind.u64.wrap (a2.Lo + a3.Lo)) a1)), (36, pt g2 1)] (by kernel_rfl) ?_
  refine WR.load (dst := some 37) (t := 23) (o := 1) hb39 (by kernel_rfl) (.int .u64 a2.Hi) (by kernel_rfl) ?_
  refine WR.batch 1 [(1, .int .u64 a1), (8, pt g22 0), (10, .bool (decide (a3.Hi ≤ (IntKind.u64.wrap (a1 - a2.Hi))))), (11, .bool (decide (a3.Lo > (IntKind.u64.wrap (a1 - a2.Lo))))), (35, .int .u64 (bAnd .u64 (IntKind.u64.wrap (a2.Lo + a3.Lo)) a1)), (37, .int .u64 a2.Hi), (38, pt g12 1)] (by kernel_rfl) ?_
  refine WR.load (dst := some 39) (t := 23) (o := 1) hb38 (by kernel_rfl) (.int .u64 a3.Hi) (by kernel_rfl) ?_
  refine WR.batch 6 [(8, pt g22 0), (11, .bool (decide (a3.Lo > (IntKind.u64.wrap (a1 - a2.Lo))))), (43, .agg #[.int .u64 (bAnd .u64 (IntKind.u64.wrap (a2.Lo + a3.Lo)) a1), .int .u64 (bAnd .u64 (IntKind.u64.wrap (a2.Hi + a3.Hi)) a1)]), (45, .bool (decide (a3.Hi ≤ (IntKind.u64.wrap (a1 - a2.Hi)))))] (by kernel_rfl) ?_
  refine WR.batch 2 [(8, pt g22 0), (43, .agg #[.int .u64 (bAnd .u64 (IntKind.u64.wrap (a2.Lo + a3.Lo)) a1), .int .u64 (bAnd .u64 (IntKind.u64.wrap (a2.Hi + a3.Hi)) a1)]), (47, .bool ((decide (a3.Hi ≤ (IntKind.u64.wrap (a1 - a2.Hi)))) || (decide (a3.Lo > (IntKind.u64.wrap (a1 - a2.Lo))))))] (by generalize decide (a3.Hi ≤ (IntKind.u64.wrap (a1 - a2.Hi))) = b; cases b <;> kernel_rfl) ?_
  refine WR.store (t := 25) (o := 0) (v := .agg #[.int .u64 (bAnd .u64 (IntKind.u64.wrap (a2.Lo + a3.Lo)) a1), .int .u64 (bAnd .u64 (IntKind.u64.wrap (a2.Hi + a3.Hi)) a1)]) hb25 (by kernel_rfl) #[.int .u64 (bAnd .u64 (IntKind.u64.wrap (a2.Lo + a3.Lo)) a1), .int .u64 (bAnd .u64 (IntKind.u64.wrap (a2.Hi + a3.Hi)) a1)] (by kernel_rfl) ?_
  intro w42 hb43 hc44
  have hz46 := hc44.size
  have hC45 := hC29.step1 hc44 (by omega)
  refine WR.batch 1 [(8, pt g22 0), (9, .bool ((decide (a3.Hi ≤ (IntKind.u64.wrap (a1 - a2.Hi)))) || (decide (a3.Lo > (IntKind.u64.wrap (a1 - a2.Lo))))))] (by kernel_rfl) ?_
  refine WR.fin (by kernel_rfl) ?_
  refine go hK41 ?_
  refine CW.ret ?_
  exact retC [.agg #[.int .u64 (bAnd .u64 (IntKind.u64.wrap (a2.Lo + a3.Lo)) a1), .int .u64 (bAnd .u64 (IntKind.u64.wrap (a2.Hi + a3.Hi)) a1)], .bool ((decide (a3.Hi ≤ (IntKind.u64.wrap (a1 - a2.Hi)))) || (decide (a3.Lo > (IntKind.u64.wrap (a1 - a2.Lo)))))] _ rfl ⟨resCell hb43 rfl (by kernel_rfl), rfl, trivial⟩ (⟨hC45, (congrArg (fun r : (TSpan × Bool) => (.tuple #[TSpan.v r.1, .bool r.2] : Value)) hs36).symm⟩)
 have hs47 := ifF ht35 hs
 replace ht35 : a0 ≠ (1 : Int) := (bEqF ht35)
 refine CW.seq fun K48 hK48 => ?_
 refine CW.region ?_
 refine WR.batch 2 [(1, .int .u64 a1), (6, pt g2 0), (7, pt g12 0), (8, pt g22 0), (12, .int .u8 a0), (48, .bool (a0 == (2 : Int)))] (by kernel_rfl) ?_
 refine WR.fin (by kernel_rfl) ?_
 refine go hK48 ?_
 refine CW.cond ((a0 == (2 : Int))) (by kernel_rfl) (fun ht49 => ?_) (fun ht49 => ?_)
 ·
  have hs50 := ifT ht49 hs47
  replace ht49 : a0 = (2 : Int) := (bEqT ht49)
  refine CW.seq fun K51 hK51 => ?_
  rcases Bool.eq_false_or_eq_true (decide (a2.Lo ≥ a3.Hi)) with ht52 | ht52
  ·
   have hs53 := ifT ht52 hs50
   have ht52p : a2.Lo ≥ a3.Hi := (of_decide_eq_true ht52)
   refine CW.keep [1, 6, 7, 8] (F' := [(1, .int .u64 a1), (6, pt g2 0), (7, pt g12 0), (8, pt g22 0)]) (by kernel_rfl) ?_
   refine CW.regionG 28 [some (pt g2 0), some (.int .u64 a2.Lo), some (pt g12 1), some (.int .u64 a3.Hi), some (.int .u64 (IntKind.u64.wrap (a2.Lo - a3.Hi))), some (.int .u64 a1), some (.int .u64 (bAnd .u64 (IntKind.u64.wrap (a2.Lo - a3.Hi)) a1)), some (pt g2 1), some (.int .u64 a2.Hi), some (pt g12 0), some (.int .u64 a3.Lo), some (.int .u64 (IntKind.u64.wrap (a2.Hi - a3.Lo))), some (.int .u64 a1), some (.int .u64 (bAnd .u64 (IntKind.u64.wrap (a2.Hi - a3.Lo)) a1)), some (.agg #[.int .u64 (bAnd .u64 (IntKind.u64.wrap (a2.Lo - a3.Hi)) a1), .int .u64 (bAnd .u64 (IntKind.u64.wrap (a2.Hi - a3.Lo)) a1)]), some (pt g2 0), some (.int .u64 a2.Lo), some (pt g12 1), some (.int .u64 a3.Hi), some (.bool true), some (.bool true), some (.tuple #[]), some (.tuple #[]), some (.tuple #[]), some (.tuple #[]), some (.tuple #[]), some (.bool true), none] (fun u => [(50, pt g2 0), (51, .int .u64 a2.Lo), (52, pt g12 1), (53, .int .u64 a3.Hi), (54, .int .u64 (IntKind.u64.wrap (a2.Lo - a3.Hi))), (55, .int .u64 a1), (56, .int .u64 (bAnd .u64 (IntKind.u64.wrap (a2.Lo - a3.Hi)) a1)), (57, pt g2 1), (58, .int .u64 a2.Hi), (59, pt g12 0), (60, .int .u64 a3.Lo), (61, .int .u64 (IntKind.u64.wrap (a2.Hi - a3.Lo))), (62, .int .u64 a1), (63, .int .u64 (bAnd .u64 (IntKind.u64.wrap (a2.Hi - a3.Lo)) a1)), (64, .agg #[.int .u64 (bAnd .u64 (IntKind.u64.wrap (a2.Lo - a3.Hi)) a1), .int .u64 (bAnd .u64 (IntKind.u64.wrap (a2.Hi - a3.Lo)) a1)]), (65, pt g2 0), (66, .int .u64 a2.Lo), (67, pt g12 1), (68, .int .u64 a3.Hi), (69, .bool true), (70, .bool true), (71, .tuple #[]), (72, .tuple #[]), (73, .tuple #[]), (74, .tuple #[]), (75, .tuple #[]), (76, .bool true), (1, .int .u64 a1), (6, pt g2 0), (7, pt g12 0), (8, pt g22 0)]) (fun _ => by kernel_rfl) (by kernel_rfl) [(27, g22)] (fun i w' => match i with | 0 => True | 1 => True | 2 => True | 3 => True | 4 => True | 5 => True | 6 => True | 7 => True | 8 => True | 9 => True | 10 => True | 11 => True | 12 => True | 13 => True | 14 => True | 15 => True | 16 => True | 17 => True | 18 => True | 19 => True | 20 => True | 21 => True | 22 => True | 23 => True | 24 => True | 25 => True | 26 => True | 27 => Blk w' g22 #[.int .u64 0, .int .u64 0] 25 | _ => True) (fun j => match j with | 0 => trivial | 1 => trivial | 2 => trivial | 3 => trivial | 4 => trivial | 5 => trivial | 6 => trivial | 7 => trivial | 8 => trivial | 9 => trivial | 10 => trivial | 11 => trivial | 12 => trivial | 13 => trivial | 14 => trivial | 15 => trivial | 16 => trivial | 17 => trivial | 18 => trivial | 19 => trivial | 20 => trivial | 21 => trivial | 22 => trivial | 23 => trivial | 24 => trivial | 25 => trivial | 26 => trivial | 27 => hb25.pure (Chg.drew w23) | j + 28 => trivial) ?_ [] [] (by kernel_rfl) (fun w' => Chg [g22] w23 w') (fun i v w' => match i with | 0 => True | 1 => True | 2 => True | 3 => True | 4 => True | 5 => True | 6 => True | 7 => True | 8 => True | 9 => True | 10 => True | 11 => True | 12 => True | 13 => True | 14 => True | 15 => True | 16 => True | 17 => True | 18 => True | 19 => True | 20 => True | 21 => True | 22 => True | 23 => True | 24 => True | 25 => True | 26 => True | 27 => Blk w' g22 #[.int .u64 (bAnd .u64 (IntKind.u64.wrap (a2.Lo - a3.Hi)) a1), .int .u64 (bAnd .u64 (IntKind.u64.wrap (a2.Hi - a3.Lo)) a1)] 25 | _ => True) (fun j x w hj h => absurd hj (by simp)) (by kernel_rfl) (by kernel_rfl) (by kernel_rfl) (by kernel_rfl) ((Chg.drew w23).weak (by simp)) (fun _ _ _ h h' => h.step h' (fun t ht => .inl (cL_sub t ht))) ?_ (obsG_batch 1 0 27 (fun _ _ => by kernel_rfl) (by kernel_rfl) ⟨?_, (obsG_batch 1 2 25 (fun _ _ => by kernel_rfl) (by kernel_rfl) ⟨?_, (obsG_batch 4 4 20 (fun _ _ => by kernel_rfl) (by kernel_rfl) ⟨?_, (obsG_batch 1 9 18 (fun _ _ => by kernel_rfl) (by kernel_rfl) ⟨?_, (obsG_batch 5 11 12 (fun _ _ => by kernel_rfl) (by kernel_rfl) ⟨?_, (obsG_batch 1 17 10 (fun _ _ => by kernel_rfl) (by kernel_rfl) ⟨?_, ⟨?_, (obsG_batch 1 20 7 (fun _ _ => by kernel_rfl) (by kernel_rfl) ⟨?_, ⟨?_, ⟨?_, ⟨?_, ⟨?_, (obsG_batch 1 26 1 (fun _ _ => by kernel_rfl) (by kernel_rfl) ⟨?_, trivial⟩)⟩⟩⟩⟩⟩)⟩⟩)⟩)⟩)⟩)⟩)⟩) ?_
   ·
    intro i j w1 w2 hij h hc
    match j, hij, h with
    | 0, hij, h => exact trivial
    | 1, hij, h => exact trivial
    | 2, hij, h => exact trivial
    | 3, hij, h => exact trivial
    | 4, hij, h => exact trivial
    | 5, hij, h => exact trivial
    | 6, hij, h => exact trivial
    | 7, hij, h => exact trivial
    | 8, hij, h => exact trivial
    | 9, hij, h => exact trivial
    | 10, hij, h => exact trivial
    | 11, hij, h => exact trivial
    | 12, hij, h => exact trivial
    | 13, hij, h => exact trivial
    | 14, hij, h => exact trivial
    | 15, hij, h => exact trivial
    | 16, hij, h => exact trivial
    | 17, hij, h => exact trivial
    | 18, hij, h => exact trivial
    | 19, hij, h => exact trivial
    | 20, hij, h => exact trivial
    | 21, hij, h => exact trivial
    | 22, hij, h => exact trivial
    | 23, hij, h => exact trivial
    | 24, hij, h => exact trivial
    | 25, hij, h => exact trivial
    | 26, hij, h => exact trivial
    | 27, hij, h => exact h.chg hc (cL_not (by intro p hp e; simp only [List.mem_cons, List.not_mem_nil, or_false] at hp; rcases hp with rfl <;> (simp only at e ⊢; omega)))
    | n + 28, _, _ => trivial
   ·
    intro i j v w1 w2 hij h hc
    match j, hij, h with
    | 0, _, _ => trivial
    | 1, _, _ => trivial
    | 2, _, _ => trivial
    | 3, _, _ => trivial
    | 4, _, _ => trivial
    | 5, _, _ => trivial
    | 6, _, _ => trivial
    | 7, _, _ => trivial
    | 8, _, _ => trivial
    | 9, _, _ => trivial
    | 10, _, _ => trivial
    | 11, _, _ => trivial
    | 12, _, _ => trivial
    | 13, _, _ => trivial
    | 14, _, _ => trivial
    | 15, _, _ => trivial
    | 16, _, _ => trivial
    | 17, _, _ => trivial
    | 18, _, _ => trivial
    | 19, _, _ => trivial
    | 20, _, _ => trivial
    | 21, _, _ => trivial
    | 22, _, _ => trivial
    | 23, _, _ => trivial
    | 24, _, _ => trivial
    | 25, _, _ => trivial
    | 26, _, _ => trivial
    | 27, hij, h => exact h.chg hc (cL_not (by intro p hp e; simp only [List.mem_cons, List.not_mem_nil, or_false] at hp; rcases hp with rfl <;> (simp only at e ⊢; omega)))
    | n + 28, _, _ => trivial
   ·
    intro u54 w55 hW56 hPr59 hp57 hal58
    have hz61 := hW56.size
    have hC60 := hC29.step1 hW56 (by omega)
    have hb62 : Blk w55 g22 #[.int .u64 0, .int .u64 0] 25 := hPr59 27 (.inr (.one (by kernel_rfl)))
    have hb63 := ((hb5.pure hc17).pure hc27).chg1 hW56 (by omega)
    refine WR.load (dst := some 51) (t := 23) (o := 0) hb63 (by kernel_rfl) (.int .u64 a2.Lo) (by kernel_rfl) ?_
    refine WR.fin (by kernel_rfl) ?_
    exact fun _ ha => ⟨Chg.refl _ _, _, ha, ⟨⟨fun h => absurd h (by decide), alNone (by decide)⟩, rfl⟩⟩
   ·
    intro u64 w65 hW66 hPr69 hp67 hal68
    have hz71 := hW66.size
    have hC70 := hC29.step1 hW66 (by omega)
    have hb72 : Blk w65 g22 #[.int .u64 0, .int .u64 0] 25 := hPr69 27 (.inr (.one (by kernel_rfl)))
    have hb73 := (hb15.pure hc27).chg1 hW66 (by omega)
    refine WR.load (dst := some 53) (t := 23) (o := 1) hb73 (by kernel_rfl) (.int .u64 a3.Hi) (by kernel_rfl) ?_
    refine WR.fin (by kernel_rfl) ?_
    exact fun _ ha => ⟨Chg.refl _ _, _, ha, ⟨⟨fun h => absurd h (by decide), alNone (by decide)⟩, rfl⟩⟩
   ·
    intro u74 w75 hW76 hPr79 hp77 hal78
    have hz81 := hW76.size
    have hC80 := hC29.step1 hW76 (by omega)
    have hb82 : Blk w75 g22 #[.int .u64 0, .int .u64 0] 25 := hPr79 27 (.inr (.one (by kernel_rfl)))
    have hb83 := ((hb5.pure hc17).pure hc27).chg1 hW76 (by omega)
    refine WR.load (dst := some 58) (t := 23) (o := 1) hb83 (by kernel_rfl) (.int .u64 a2.Hi) (by kernel_rfl) ?_
    refine WR.fin (by kernel_rfl) ?_
    exact fun _ ha => ⟨Chg.refl _ _, _, ha, ⟨⟨fun h => absurd h (by decide), alNone (by decide)⟩, rfl⟩⟩
   ·
    intro u84 w85 hW86 hPr89 hp87 hal88
    have hz91 := hW86.size
    have hC90 := hC29.step1 hW86 (by omega)
    have hb92 : Blk w85 g22 #[.int .u64 0, .int .u64 0] 25 := hPr89 27 (.inr (.one (by kernel_rfl)))
    have hb93 := (hb15.pure hc27).chg1 hW86 (by omega)
    refine WR.load (dst := some 60) (t := 23) (o := 0) hb93 (by kernel_rfl) (.int .u64 a3.Lo) (by kernel_rfl) ?_
    refine WR.fin (by kernel_rfl) ?_
    exact fun _ ha => ⟨Chg.refl _ _, _, ha, ⟨⟨fun h => absurd h (by decide), alNone (by decide)⟩, rfl⟩⟩
   ·
    intro u94 w95 hW96 hPr99 hp97 hal98
    have hz101 := hW96.size
    have hC100 := hC29.step1 hW96 (by omega)
    have hb102 : Blk w95 g22 #[.int .u64 0, .int .u64 0] 25 := hPr99 27 (.inr (.step (k := 20) (by kernel_rfl) (.step (k := 19) (by kernel_rfl) (.one (by kernel_rfl)))))
    have hb103 := ((hb5.pure hc17).pure hc27).chg1 hW96 (by omega)
    refine WR.load (dst := some 66) (t := 23) (o := 0) hb103 (by kernel_rfl) (.int .u64 a2.Lo) (by kernel_rfl) ?_
    refine WR.fin (by kernel_rfl) ?_
    exact fun _ ha => ⟨Chg.refl _ _, _, ha, ⟨⟨fun h => absurd h (by decide), alNone (by decide)⟩, rfl⟩⟩
   ·
    intro u104 w105 hW106 hPr109 hp107 hal108
    have hz111 := hW106.size
    have hC110 := hC29.step1 hW106 (by omega)
    have hb112 : Blk w105 g22 #[.int .u64 0, .int .u64 0] 25 := hPr109 27 (.inr (.step (k := 20) (by kernel_rfl) (.step (k := 19) (by kernel_rfl) (.one (by kernel_rfl)))))
    have hb113 := (hb15.pure hc27).chg1 hW106 (by omega)
    refine WR.load (dst := some 68) (t := 23) (o := 1) hb113 (by kernel_rfl) (.int .u64 a3.Hi) (by kernel_rfl) ?_
    refine WR.fin (by kernel_rfl) ?_
    exact fun _ ha => ⟨Chg.refl _ _, _, ha, ⟨⟨fun h => absurd h (by decide), alNone (by decide)⟩, rfl⟩⟩
   ·
    intro u114 w115 hW116 hPr119 hp117 hal118
    have hz121 := hW116.size
    have hC120 := hC29.step1 hW116 (by omega)
    have hb122 : Blk w115 g22 #[.int .u64 0, .int .u64 0] 25 := hPr119 27 (.inr (.step (k := 20) (by kernel_rfl) (.one (by kernel_rfl))))
    refine WR.valR (dst := some 69) (v := .bool (decide (a2.Lo ≥ a3.Hi))) (w' := w115) (by kernel_rfl) ?_
    have hk123 : (decide (a2.Lo ≥ a3.Hi)) = true := ht52
    rw [hk123]
    refine WR.fin (by kernel_rfl) ?_
    exact fun _ ha => ⟨Chg.refl _ _, _, ha, ⟨⟨fun h => absurd h (by decide), alNone (by decide)⟩, rfl⟩⟩
   ·
    intro u124 w125 hW126 _ hp127 hal128
    have hz131 := hW126.size
    have hC130 := hC29.step1 hW126 (by omega)
    refine WR.pass1 (dst := some 71) (by kernel_rfl) ?_
    refine WR.fin (by kernel_rfl) ?_
    exact fun _ ha => ⟨Chg.refl _ _, _, ha, ⟨⟨fun h => absurd h (by decide), alNone (by decide)⟩, rfl⟩⟩
   ·
    intro u132 w133 hW134 _ hp135 hal136
    have hz139 := hW134.size
    have hC138 := hC29.step1 hW134 (by omega)
    refine WR.pass1 (dst := some 72) (by kernel_rfl) ?_
    refine WR.fin (by kernel_rfl) ?_
    exact fun _ ha => ⟨Chg.refl _ _, _, ha, ⟨⟨fun h => absurd h (by decide), alNone (by decide)⟩, rfl⟩⟩
   ·
    intro u140 w141 hW142 _ hp143 hal144
    have hz147 := hW142.size
    have hC146 := hC29.step1 hW142 (by omega)
    refine WR.pass1 (dst := some 73) (by kernel_rfl) ?_
    refine WR.fin (by kernel_rfl) ?_
    exact fun _ ha => ⟨Chg.refl _ _, _, ha, ⟨⟨fun h => absurd h (by decide), alNone (by decide)⟩, rfl⟩⟩
   ·
    intro u148 w149 hW150 _ hp151 hal152
    have hz155 := hW150.size
    have hC154 := hC29.step1 hW150 (by omega)
    refine WR.pass1 (dst := some 74) (by kernel_rfl) ?_
    refine WR.fin (by kernel_rfl) ?_
    exact fun _ ha => ⟨Chg.refl _ _, _, ha, ⟨⟨fun h => absurd h (by decide), alNone (by decide)⟩, rfl⟩⟩
   ·
    intro u156 w157 hW158 _ hp159 hal160
    have hz163 := hW158.size
    have hC162 := hC29.step1 hW158 (by omega)
    refine WR.pass1 (dst := some 75) (by kernel_rfl) ?_
    refine WR.fin (by kernel_rfl) ?_
    exact fun _ ha => ⟨Chg.refl _ _, _, ha, ⟨⟨fun h => absurd h (by decide), alNone (by decide)⟩, rfl⟩⟩
   ·
    intro u164 w165 hW166 hPr169 hp167 hal168
    have hz171 := hW166.size
    have hC170 := hC29.step1 hW166 (by omega)
    have hb172 : Blk w165 g22 #[.int .u64 0, .int .u64 0] 25 := hPr169 27 (.inl rfl)
    refine WR.store (t := 25) (o := 0) (v := .agg #[.int .u64 (bAnd .u64 (IntKind.u64.wrap (a2.Lo - a3.Hi)) a1), .int .u64 (bAnd .u64 (IntKind.u64.wrap (a2.Hi - a3.Lo)) a1)]) hb172 (by kernel_rfl) #[.int .u64 (bAnd .u64 (IntKind.u64.wrap (a2.Lo - a3.Hi)) a1), .int .u64 (bAnd .u64 (IntKind.u64.wrap (a2.Hi - a3.Lo)) a1)] (by kernel_rfl) ?_
    intro w173 hb174 hc175
    have hz177 := hc175.size
    have hC176 := hC170.step1 hc175 (by omega)
    refine WR.fin (by kernel_rfl) ?_
    exact fun _ ha => ⟨hc175, undef, ha, ⟨⟨fun h => absurd h (by decide), alNone (by decide)⟩, hb174⟩⟩
   intro u178 w179 hW180 hr181 _ _
   have hz185 := hW180.size
   have hC184 := hC29.step1 hW180 (by omega)
   have hp186 : Blk w179 g22 #[.int .u64 (bAnd .u64 (IntKind.u64.wrap (a2.Lo - a3.Hi)) a1), .int .u64 (bAnd .u64 (IntKind.u64.wrap (a2.Hi - a3.Lo)) a1)] 25 := hr181 27 (by omega) (by kernel_rfl)
   refine WR.keep [8, 76] (F' := [(8, pt g22 0), (76, .bool true)]) (by kernel_rfl) ?_
   refine WR.batch 1 [(8, pt g22 0), (9, .bool true)] (by kernel_rfl) ?_
   refine WR.fin (by kernel_rfl) ?_
   refine go hK51 ?_
   refine CW.ret ?_
   exact retC [.agg #[.int .u64 (bAnd .u64 (IntKind.u64.wrap (a2.Lo - a3.Hi)) a1), .int .u64 (bAnd .u64 (IntKind.u64.wrap (a2.Hi - a3.Lo)) a1)], .bool true] _ rfl ⟨resCell hp186 rfl (by kernel_rfl), rfl, trivial⟩ (⟨hC184, (congrArg (fun r : (TSpan × Bool) => (.tuple #[TSpan.v r.1, .bool r.2] : Value)) hs53).symm⟩)
  have hs187 := ifF ht52 hs50
  have ht52p : ¬ (a2.Lo ≥ a3.Hi) := (of_decide_eq_false ht52)
  refine CW.keep [1, 6, 7, 8] (F' := [(1, .int .u64 a1), (6, pt g2 0), (7, pt g12 0), (8, pt g22 0)]) (by kernel_rfl) ?_
  refine CW.regionG 28 [some (pt g2 0), some (.int .u64 a2.Lo), some (pt g12 1), some (.int .u64 a3.Hi), some (.int .u64 (IntKind.u64.wrap (a2.Lo - a3.Hi))), some (.int .u64 a1), some (.int .u64 (bAnd .u64 (IntKind.u64.wrap (a2.Lo - a3.Hi)) a1)), some (pt g2 1), some (.int .u64 a2.Hi), some (pt g12 0), some (.int .u64 a3.Lo), some (.int .u64 (IntKind.u64.wrap (a2.Hi - a3.Lo))), some (.int .u64 a1), some (.int .u64 (bAnd .u64 (IntKind.u64.wrap (a2.Hi - a3.Lo)) a1)), some (.agg #[.int .u64 (bAnd .u64 (IntKind.u64.wrap (a2.Lo - a3.Hi)) a1), .int .u64 (bAnd .u64 (IntKind.u64.wrap (a2.Hi - a3.Lo)) a1)]), some (pt g2 0), some (.int .u64 a2.Lo), some (pt g12 1), some (.int .u64 a3.Hi), some (.bool false), some (.bool false), some (pt g2 1), some (.int .u64 a2.Hi), some (pt g12 0), some (.int .u64 a3.Lo), some (.bool (decide (a2.Hi < a3.Lo))), some (.bool (decide (a2.Hi < a3.Lo))), none] (fun u => [(50, pt g2 0), (51, .int .u64 a2.Lo), (52, pt g12 1), (53, .int .u64 a3.Hi), (54, .int .u64 (IntKind.u64.wrap (a2.Lo - a3.Hi))), (55, .int .u64 a1), (56, .int .u64 (bAnd .u64 (IntKind.u64.wrap (a2.Lo - a3.Hi)) a1)), (57, pt g2 1), (58, .int .u64 a2.Hi), (59, pt g12 0), (60, .int .u64 a3.Lo), (61, .int .u64 (IntKind.u64.wrap (a2.Hi - a3.Lo))), (62, .int .u64 a1), (63, .int .u64 (bAnd .u64 (IntKind.u64.wrap (a2.Hi - a3.Lo)) a1)), (64, .agg #[.int .u64 (bAnd .u64 (IntKind.u64.wrap (a2.Lo - a3.Hi)) a1), .int .u64 (bAnd .u64 (IntKind.u64.wrap (a2.Hi - a3.Lo)) a1)]), (65, pt g2 0), (66, .int .u64 a2.Lo), (67, pt g12 1), (68, .int .u64 a3.Hi), (69, .bool false), (70, .bool false), (71, pt g2 1), (72, .int .u64 a2.Hi), (73, pt g12 0), (74, .int .u64 a3.Lo), (75, .bool (decide (a2.Hi < a3.Lo))), (76, .bool (decide (a2.Hi < a3.Lo))), (1, .int .u64 a1), (6, pt g2 0), (7, pt g12 0), (8, pt g22 0)]) (fun _ => by kernel_rfl) (by kernel_rfl) [(27, g22)] (fun i w' => match i with | 0 => True | 1 => True | 2 => True | 3 => True | 4 => True | 5 => True | 6 => True | 7 => True | 8 => True | 9 => True | 10 => True | 11 => True | 12 => True | 13 => True | 14 => True | 15 => True | 16 => True | 17 => True | 18 => True | 19 => True | 20 => True | 21 => True | 22 => True | 23 => True | 24 => True | 25 => True | 26 => True | 27 => Blk w' g22 #[.int .u64 0, .int .u64 0] 25 | _ => True) (fun j => match j with | 0 => trivial | 1 => trivial | 2 => trivial | 3 => trivial | 4 => trivial | 5 => trivial | 6 => trivial | 7 => trivial | 8 => trivial | 9 => trivial | 10 => trivial | 11 => trivial | 12 => trivial | 13 => trivial | 14 => trivial | 15 => trivial | 16 => trivial | 17 => trivial | 18 => trivial | 19 => trivial | 20 => trivial | 21 => trivial | 22 => trivial | 23 => trivial | 24 => trivial | 25 => trivial | 26 => trivial | 27 => hb25.pure (Chg.drew w23) | j + 28 => trivial) ?_ [] [] (by kernel_rfl) (fun w' => Chg [g22] w23 w') (fun i v w' => match i with | 0 => True | 1 => True | 2 => True | 3 => True | 4 => True | 5 => True | 6 => True | 7 => True | 8 => True | 9 => True | 10 => True | 11 => True | 12 => True | 13 => True | 14 => True | 15 => True | 16 => True | 17 => True | 18 => True | 19 => True | 20 => True | 21 => True | 22 => True | 23 => True | 24 => True | 25 => True | 26 => True | 27 => Blk w' g22 #[.int .u64 (bAnd .u64 (IntKind.u64.wrap (a2.Lo - a3.Hi)) a1), .int .u64 (bAnd .u64 (IntKind.u64.wrap (a2.Hi - a3.Lo)) a1)] 25 | _ => True) (fun j x w hj h => absurd hj (by simp)) (by kernel_rfl) (by kernel_rfl) (by kernel_rfl) (by kernel_rfl) ((Chg.drew w23).weak (by simp)) (fun _ _ _ h h' => h.step h' (fun t ht => .inl (cL_sub t ht))) ?_ (obsG_batch 1 0 27 (fun _ _ => by kernel_rfl) (by kernel_rfl) ⟨?_, (obsG_batch 1 2 25 (fun _ _ => by kernel_rfl) (by kernel_rfl) ⟨?_, (obsG_batch 4 4 20 (fun _ _ => by kernel_rfl) (by kernel_rfl) ⟨?_, (obsG_batch 1 9 18 (fun _ _ => by kernel_rfl) (by kernel_rfl) ⟨?_, (obsG_batch 5 11 12 (fun _ _ => by kernel_rfl) (by kernel_rfl) ⟨?_, (obsG_batch 1 17 10 (fun _ _ => by kernel_rfl) (by kernel_rfl) ⟨?_, ⟨?_, (obsG_batch 1 20 7 (fun _ _ => by kernel_rfl) (by kernel_rfl) ⟨?_, ⟨?_, ⟨?_, ⟨?_, ⟨?_, (obsG_batch 1 26 1 (fun _ _ => by kernel_rfl) (by kernel_rfl) ⟨?_, trivial⟩)⟩⟩⟩⟩⟩)⟩⟩)⟩)⟩)⟩)⟩)⟩) ?_
  ·
   intro i j w1 w2 hij h hc
   match j, hij, h with
   | 0, hij, h => exact trivial
   | 1, hij, h => exact trivial
   | 2, hij, h => exact trivial
   | 3, hij, h => exact trivial
   | 4, hij, h => exact trivial
   | 5, hij, h => exact trivial
   | 6, hij, h => exact trivial
   | 7, hij, h => exact trivial
   | 8, hij, h => exact trivial
   | 9, hij, h => exact trivial
   | 10, hij, h => exact trivial
   | 11, hij, h => exact trivial
   | 12, hij, h => exact trivial
   | 13, hij, h => exact trivial
   | 14, hij, h => exact trivial
   | 15, hij, h => exact trivial
   | 16, hij, h => exact trivial
   | 17, hij, h => exact trivial
   | 18, hij, h => exact trivial
   | 19, hij, h => exact trivial
   | 20, hij, h => exact trivial
   | 21, hij, h => exact trivial
   | 22, hij, h => exact trivial
   | 23, hij, h => exact trivial
   | 24, hij, h => exact trivial
   | 25, hij, h => exact trivial
   | 26, hij, h => exact trivial
   | 27, hij, h => exact h.chg hc (cL_not (by intro p hp e; simp only [List.mem_cons, List.not_mem_nil, or_false] at hp; rcases hp with rfl <;> (simp only at e ⊢; omega)))
   | n + 28, _, _ => trivial
  ·
   intro i j v w1 w2 hij h hc
   match j, hij, h with
   | 0, _, _ => trivial
   | 1, _, _ => trivial
   | 2, _, _ => trivial
   | 3, _, _ => trivial
   | 4, _, _ => trivial
   | 5, _, _ => trivial
   | 6, _, _ => trivial
   | 7, _, _ => trivial
   | 8, _, _ => trivial
   | 9, _, _ => trivial
   | 10, _, _ => trivial
   | 11, _, _ => trivial
   | 12, _, _ => trivial
   | 13, _, _ => trivial
   | 14, _, _ => trivial
   | 15, _, _ => trivial
   | 16, _, _ => trivial
   | 17, _, _ => trivial
   | 18, _, _ => trivial
   | 19, _, _ => trivial
   | 20, _, _ => trivial
   | 21, _, _ => trivial
   | 22, _, _ => trivial
   | 23, _, _ => trivial
   | 24, _, _ => trivial
   | 25, _, _ => trivial
   | 26, _, _ => trivial
   | 27, hij, h => exact h.chg hc (cL_not (by intro p hp e; simp only [List.mem_cons, List.not_mem_nil, or_false] at hp; rcases hp with rfl <;> (simp only at e ⊢; omega)))
   | n + 28, _, _ => trivial
  ·
   intro u188 w189 hW190 hPr193 hp191 hal192
   have hz195 := hW190.size
   have hC194 := hC29.step1 hW190 (by omega)
   have hb196 : Blk w189 g22 #[.int .u64 0, .int .u64 0] 25 := hPr193 27 (.inr (.one (by kernel_rfl)))
   have hb197 := ((hb5.pure hc17).pure hc27).chg1 hW190 (by omega)
   refine WR.load (dst := some 51) (t := 23) (o := 0) hb197 (by kernel_rfl) (.int .u64 a2.Lo) (by kernel_rfl) ?_
   refine WR.fin (by kernel_rfl) ?_
   exact fun _ ha => ⟨Chg.refl _ _, _, ha, ⟨⟨fun h => absurd h (by decide), alNone (by decide)⟩, rfl⟩⟩
  ·
   intro u198 w199 hW200 hPr203 hp201 hal202
   have hz205 := hW200.size
   have hC204 := hC29.step1 hW200 (by omega)
   have hb206 : Blk w199 g22 #[.int .u64 0, .int .u64 0] 25 := hPr203 27 (.inr (.one (by kernel_rfl)))
   have hb207 := (hb15.pure hc27).chg1 hW200 (by omega)
   refine WR.load (dst := some 53) (t := 23) (o := 1) hb207 (by kernel_rfl) (.int .u64 a3.Hi) (by kernel_rfl) ?_
   refine WR.fin (by kernel_rfl) ?_
   exact fun _ ha => ⟨Chg.refl _ _, _, ha, ⟨⟨fun h => absurd h (by decide), alNone (by decide)⟩, rfl⟩⟩
  ·
   intro u208 w209 hW210 hPr213 hp211 hal212
   have hz215 := hW210.size
   have hC214 := hC29.step1 hW210 (by omega)
   have hb216 : Blk w209 g22 #[.int .u64 0, .int .u64 0] 25 := hPr213 27 (.inr (.one (by kernel_rfl)))
   have hb217 := ((hb5.pure hc17).pure hc27).chg1 hW210 (by omega)
   refine WR.load (dst := some 58) (t := 23) (o := 1) hb217 (by kernel_rfl) (.int .u64 a2.Hi) (by kernel_rfl) ?_
   refine WR.fin (by kernel_rfl) ?_
   exact fun _ ha => ⟨Chg.refl _ _, _, ha, ⟨⟨fun h => absurd h (by decide), alNone (by decide)⟩, rfl⟩⟩
  ·
   intro u218 w219 hW220 hPr223 hp221 hal222
   have hz225 := hW220.size
   have hC224 := hC29.step1 hW220 (by omega)
   have hb226 : Blk w219 g22 #[.int .u64 0, .int .u64 0] 25 := hPr223 27 (.inr (.one (by kernel_rfl)))
   have hb227 := (hb15.pure hc27).chg1 hW220 (by omega)
   refine WR.load (dst := some 60) (t := 23) (o := 0) hb227 (by kernel_rfl) (.int .u64 a3.Lo) (by kernel_rfl) ?_
   refine WR.fin (by kernel_rfl) ?_
   exact fun _ ha => ⟨Chg.refl _ _, _, ha, ⟨⟨fun h => absurd h (by decide), alNone (by decide)⟩, rfl⟩⟩
  ·
   intro u228 w229 hW230 hPr233 hp231 hal232
   have hz235 := hW230.size
   have hC234 := hC29.step1 hW230 (by omega)
   have hb236 : Blk w229 g22 #[.int .u64 0, .int .u64 0] 25 := hPr233 27 (.inr (.step (k := 20) (by kernel_rfl) (.step (k := 19) (by kernel_rfl) (.one (by kernel_rfl)))))
   have hb237 := ((hb5.pure hc17).pure hc27).chg1 hW230 (by omega)
   refine WR.load (dst := some 66) (t := 23) (o := 0) hb237 (by kernel_rfl) (.int .u64 a2.Lo) (by kernel_rfl) ?_
   refine WR.fin (by kernel_rfl) ?_
   exact fun _ ha => ⟨Chg.refl _ _, _, ha, ⟨⟨fun h => absurd h (by decide), alNone (by decide)⟩, rfl⟩⟩
  ·
   intro u238 w239 hW240 hPr243 hp241 hal242
   have hz245 := hW240.size
   have hC244 := hC29.step1 hW240 (by omega)
   have hb246 : Blk w239 g22 #[.int .u64 0, .int .u64 0] 25 := hPr243 27 (.inr (.step (k := 20) (by kernel_rfl) (.step (k := 19) (by kernel_rfl) (.one (by kernel_rfl)))))
   have hb247 := (hb15.pure hc27).chg1 hW240 (by omega)
   refine WR.load (dst := some 68) (t := 23) (o := 1) hb247 (by kernel_rfl) (.int .u64 a3.Hi) (by kernel_rfl) ?_
   refine WR.fin (by kernel_rfl) ?_
   exact fun _ ha => ⟨Chg.refl _ _, _, ha, ⟨⟨fun h => absurd h (by decide), alNone (by decide)⟩, rfl⟩⟩
  ·
   intro u248 w249 hW250 hPr253 hp251 hal252
   have hz255 := hW250.size
   have hC254 := hC29.step1 hW250 (by omega)
   have hb256 : Blk w249 g22 #[.int .u64 0, .int .u64 0] 25 := hPr253 27 (.inr (.step (k := 20) (by kernel_rfl) (.one (by kernel_rfl))))
   refine WR.valR (dst := some 69) (v := .bool (decide (a2.Lo ≥ a3.Hi))) (w' := w249) (by kernel_rfl) ?_
   have hk257 : (decide (a2.Lo ≥ a3.Hi)) = false := ht52
   rw [hk257]
   refine WR.fin (by kernel_rfl) ?_
   exact fun _ ha => ⟨Chg.refl _ _, _, ha, ⟨⟨fun h => absurd h (by decide), alNone (by decide)⟩, rfl⟩⟩
  ·
   intro u258 w259 hW260 _ hp261 hal262
   have hz265 := hW260.size
   have hC264 := hC29.step1 hW260 (by omega)
   refine WR.valR (dst := some 71) (v := pt g2 1) (w' := w259) (by kernel_rfl) ?_
   refine WR.fin (by kernel_rfl) ?_
   exact fun _ ha => ⟨Chg.refl _ _, _, ha, ⟨⟨fun h => absurd h (by decide), alNone (by decide)⟩, rfl⟩⟩
  ·
   intro u266 w267 hW268 _ hp269 hal270
   have hz273 := hW268.size
   have hC272 := hC29.step1 hW268 (by omega)
   have hb274 := ((hb5.pure hc17).pure hc27).chg1 hW268 (by omega)
   refine WR.load (dst := some 72) (t := 23) (o := 1) hb274 (by kernel_rfl) (.int .u64 a2.Hi) (by kernel_rfl) ?_
   refine WR.fin (by kernel_rfl) ?_
   exact fun _ ha => ⟨Chg.refl _ _, _, ha, ⟨⟨fun h => absurd h (by decide), alNone (by decide)⟩, rfl⟩⟩
  ·
   intro u275 w276 hW277 _ hp278 hal279
   have hz282 := hW277.size
   have hC281 := hC29.step1 hW277 (by omega)
   refine WR.valR (dst := some 73) (v := pt g12 0) (w' := w276) (by kernel_rfl) ?_
   refine WR.fin (by kernel_rfl) ?_
   exact fun _ ha => ⟨Chg.refl _ _, _, ha, ⟨⟨fun h => absurd h (by decide), alNone (by decide)⟩, rfl⟩⟩
  ·
   intro u283 w284 hW285 _ hp286 hal287
   have hz290 := hW285.size
   have hC289 := hC29.step1 hW285 (by omega)
   have hb291 := (hb15.pure hc27).chg1 hW285 (by omega)
   refine WR.load (dst := some 74) (t := 23) (o := 0) hb291 (by kernel_rfl) (.int .u64 a3.Lo) (by kernel_rfl) ?_
   refine WR.fin (by kernel_rfl) ?_
   exact fun _ ha => ⟨Chg.refl _ _, _, ha, ⟨⟨fun h => absurd h (by decide), alNone (by decide)⟩, rfl⟩⟩
  ·
   intro u292 w293 hW294 _ hp295 hal296
   have hz299 := hW294.size
   have hC298 := hC29.step1 hW294 (by omega)
   refine WR.valR (dst := some 75) (v := .bool (decide (a2.Hi < a3.Lo))) (w' := w293) (by kernel_rfl) ?_
   refine WR.fin (by kernel_rfl) ?_
   exact fun _ ha => ⟨Chg.refl _ _, _, ha, ⟨⟨fun h => absurd h (by decide), alNone (by decide)⟩, rfl⟩⟩
  ·
   intro u300 w301 hW302 hPr305 hp303 hal304
   have hz307 := hW302.size
   have hC306 := hC29.step1 hW302 (by omega)
   have hb308 : Blk w301 g22 #[.int .u64 0, .int .u64 0] 25 := hPr305 27 (.inl rfl)
   refine WR.store (t := 25) (o := 0) (v := .agg #[.int .u64 (bAnd .u64 (IntKind.u64.wrap (a2.Lo - a3.Hi)) a1), .int .u64 (bAnd .u64 (IntKind.u64.wrap (a2.Hi - a3.Lo)) a1)]) hb308 (by kernel_rfl) #[.int .u64 (bAnd .u64 (IntKind.u64.wrap (a2.Lo - a3.Hi)) a1), .int .u64 (bAnd .u64 (IntKind.u64.wrap (a2.Hi - a3.Lo)) a1)] (by kernel_rfl) ?_
   intro w309 hb310 hc311
   have hz313 := hc311.size
   have hC312 := hC306.step1 hc311 (by omega)
   refine WR.fin (by kernel_rfl) ?_
   exact fun _ ha => ⟨hc311, undef, ha, ⟨⟨fun h => absurd h (by decide), alNone (by decide)⟩, hb310⟩⟩
  intro u314 w315 hW316 hr317 _ _
  have hz321 := hW316.size
  have hC320 := hC29.step1 hW316 (by omega)
  have hp322 : Blk w315 g22 #[.int .u64 (bAnd .u64 (IntKind.u64.wrap (a2.Lo - a3.Hi)) a1), .int .u64 (bAnd .u64 (IntKind.u64.wrap (a2.Hi - a3.Lo)) a1)] 25 := hr317 27 (by omega) (by kernel_rfl)
  refine WR.keep [8, 76] (F' := [(8, pt g22 0), (76, .bool (decide (a2.Hi < a3.Lo)))]) (by kernel_rfl) ?_
  refine WR.batch 1 [(8, pt g22 0), (9, .bool (decide (a2.Hi < a3.Lo)))] (by kernel_rfl) ?_
  refine WR.fin (by kernel_rfl) ?_
  refine go hK51 ?_
  refine CW.ret ?_
  exact retC [.agg #[.int .u64 (bAnd .u64 (IntKind.u64.wrap (a2.Lo - a3.Hi)) a1), .int .u64 (bAnd .u64 (IntKind.u64.wrap (a2.Hi - a3.Lo)) a1)], .bool (decide (a2.Hi < a3.Lo))] _ rfl ⟨resCell hp322 rfl (by kernel_rfl), rfl, trivial⟩ (⟨hC320, (congrArg (fun r : (TSpan × Bool) => (.tuple #[TSpan.v r.1, .bool r.2] : Value)) hs187).symm⟩)
 have hs323 := ifF ht49 hs47
 replace ht49 : a0 ≠ (2 : Int) := (bEqF ht49)
 refine CW.seq fun K324 hK324 => ?_
 refine CW.region ?_
 refine WR.batch 2 [(1, .int .u64 a1), (6, pt g2 0), (7, pt g12 0), (8, pt g22 0), (77, .bool (a0 == (3 : Int)))] (by kernel_rfl) ?_
 refine WR.fin (by kernel_rfl) ?_
 refine go hK324 ?_
 refine CW.cond ((a0 == (3 : Int))) (by kernel_rfl) (fun ht325 => ?_) (fun ht325 => ?_)
 ·
  have hs326 := ifT ht325 hs323
  replace ht325 : a0 = (3 : Int) := (bEqT ht325)
  refine CW.seq fun K327 hK327 => ?_
  rcases Bool.eq_false_or_eq_true (a3.Hi == (0 : Int)) with ht328 | ht328
  ·
   have hs329 := ifT ht328 hs326
   have ht328p : a3.Hi = (0 : Int) := (bEqT ht328)
   refine CW.keep [1, 6, 7, 8] (F' := [(1, .int .u64 a1), (6, pt g2 0), (7, pt g12 0), (8, pt g22 0)]) (by kernel_rfl) ?_
   refine CW.regionG 24 [some (pt g2 0), some (.int .u64 a2.Lo), some (pt g12 0), some (.int .u64 a3.Lo), some (.int .u64 (IntKind.u64.wrap (a2.Lo * a3.Lo))), some (pt g2 1), some (.int .u64 a2.Hi), some (pt g12 1), some (.int .u64 a3.Hi), some (.int .u64 (IntKind.u64.wrap (a2.Hi * a3.Hi))), some (.agg #[.int .u64 (IntKind.u64.wrap (a2.Lo * a3.Lo)), .int .u64 (IntKind.u64.wrap (a2.Hi * a3.Hi))]), some (pt g12 1), some (.int .u64 a3.Hi), some (.bool true), some (.bool true), some (.tuple #[]), some (.tuple #[]), some (.tuple #[]), some (.tuple #[]), some (.tuple #[]), some (.tuple #[]), some (.tuple #[]), some (.bool true), none] (fun u => [(79, pt g2 0), (80, .int .u64 a2.Lo), (81, pt g12 0), (82, .int .u64 a3.Lo), (83, .int .u64 (IntKind.u64.wrap (a2.Lo * a3.Lo))), (84, pt g2 1), (85, .int .u64 a2.Hi), (86, pt g12 1), (87, .int .u64 a3.Hi), (88, .int .u64 (IntKind.u64.wrap (a2.Hi * a3.Hi))), (89, .agg #[.int .u64 (IntKind.u64.wrap (a2.Lo * a3.Lo)), .int .u64 (IntKind.u64.wrap (a2.Hi * a3.Hi))]), (90, pt g12 1), (91, .int .u64 a3.Hi), (92, .bool true), (93, .bool true), (94, .tuple #[]), (95, .tuple #[]), (96, .tuple #[]), (97, .tuple #[]), (98, .tuple #[]), (99, .tuple #[]), (100, .tuple #[]), (101, .bool true), (1, .int .u64 a1), (6, pt g2 0), (7, pt g12 0), (8, pt g22 0)]) (fun _ => by kernel_rfl) (by kernel_rfl) [(23, g22)] (fun i w' => match i with | 0 => True | 1 => True | 2 => True | 3 => True | 4 => True | 5 => True | 6 => True | 7 => True | 8 => True | 9 => True | 10 => True | 11 => True | 12 => True | 13 => True | 14 => True | 15 => True | 16 => True | 17 => True | 18 => True | 19 => True | 20 => True | 21 => True | 22 => True | 23 => Blk w' g22 #[.int .u64 0, .int .u64 0] 25 | _ => True) (fun j => match j with | 0 => trivial | 1 => trivial | 2 => trivial | 3 => trivial | 4 => trivial | 5 => trivial | 6 => trivial | 7 => trivial | 8 => trivial | 9 => trivial | 10 => trivial | 11 => trivial | 12 => trivial | 13 => trivial | 14 => trivial | 15 => trivial | 16 => trivial | 17 => trivial | 18 => trivial | 19 => trivial | 20 => trivial | 21 => trivial | 22 => trivial | 23 => hb25.pure (Chg.drew w23) | j + 24 => trivial) ?_ [] [] (by kernel_rfl) (fun w' => Chg [g22] w23 w') (fun i v w' => match i with | 0 => True | 1 => True | 2 => True | 3 => True | 4 => True | 5 => True | 6 => True | 7 => True | 8 => True | 9 => True | 10 => True | 11 => True | 12 => True | 13 => True | 14 => True | 15 => True | 16 => True | 17 => True | 18 => True | 19 => True | 20 => True | 21 => True | 22 => True | 23 => Blk w' g22 #[.int .u64 (IntKind.u64.wrap (a2.Lo * a3.Lo)), .int .u64 (IntKind.u64.wrap (a2.Hi * a3.Hi))] 25 | _ => True) (fun j x w hj h => absurd hj (by simp)) (by kernel_rfl) (by kernel_rfl) (by kernel_rfl) (by kernel_rfl) ((Chg.drew w23).weak (by simp)) (fun _ _ _ h h' => h.step h' (fun t ht => .inl (cL_sub t ht))) ?_ (obsG_batch 1 0 23 (fun _ _ => by kernel_rfl) (by kernel_rfl) ⟨?_, (obsG_batch 1 2 21 (fun _ _ => by kernel_rfl) (by kernel_rfl) ⟨?_, (obsG_batch 2 4 18 (fun _ _ => by kernel_rfl) (by kernel_rfl) ⟨?_, (obsG_batch 1 7 16 (fun _ _ => by kernel_rfl) (by kernel_rfl) ⟨?_, (obsG_batch 3 9 12 (fun _ _ => by kernel_rfl) (by kernel_rfl) ⟨?_, ⟨?_, (obsG_batch 1 14 9 (fun _ _ => by kernel_rfl) (by kernel_rfl) ⟨?_, ⟨?_, ⟨?_, ⟨?_, ⟨?_, ⟨?_, ⟨?_, (obsG_batch 1 22 1 (fun _ _ => by kernel_rfl) (by kernel_rfl) ⟨?_, trivial⟩)⟩⟩⟩⟩⟩⟩⟩)⟩⟩)⟩)⟩)⟩)⟩) ?_
   ·
    intro i j w1 w2 hij h hc
    match j, hij, h with
    | 0, hij, h => exact trivial
    | 1, hij, h => exact trivial
    | 2, hij, h => exact trivial
    | 3, hij, h => exact trivial
    | 4, hij, h => exact trivial
    | 5, hij, h => exact trivial
    | 6, hij, h => exact trivial
    | 7, hij, h => exact trivial
    | 8, hij, h => exact trivial
    | 9, hij, h => exact trivial
    | 10, hij, h => exact trivial
    | 11, hij, h => exact trivial
    | 12, hij, h => exact trivial
    | 13, hij, h => exact trivial
    | 14, hij, h => exact trivial
    | 15, hij, h => exact trivial
    | 16, hij, h => exact trivial
    | 17, hij, h => exact trivial
    | 18, hij, h => exact trivial
    | 19, hij, h => exact trivial
    | 20, hij, h => exact trivial
    | 21, hij, h => exact trivial
    | 22, hij, h => exact trivial
    | 23, hij, h => exact h.chg hc (cL_not (by intro p hp e; simp only [List.mem_cons, List.not_mem_nil, or_false] at hp; rcases hp with rfl <;> (simp only at e ⊢; omega)))
    | n + 24, _, _ => trivial
   ·
    intro i j v w1 w2 hij h hc
    match j, hij, h with
    | 0, _, _ => trivial
    | 1, _, _ => trivial
    | 2, _, _ => trivial
    | 3, _, _ => trivial
    | 4, _, _ => trivial
    | 5, _, _ => trivial
    | 6, _, _ => trivial
    | 7, _, _ => trivial
    | 8, _, _ => trivial
    | 9, _, _ => trivial
    | 10, _, _ => trivial
    | 11, _, _ => trivial
    | 12, _, _ => trivial
    | 13, _, _ => trivial
    | 14, _, _ => trivial
    | 15, _, _ => trivial
    | 16, _, _ => trivial
    | 17, _, _ => trivial
    | 18, _, _ => trivial
    | 19, _, _ => trivial
    | 20, _, _ => trivial
    | 21, _, _ => trivial
    | 22, _, _ => trivial
    | 23, hij, h => exact h.chg hc (cL_not (by intro p hp e; simp only [List.mem_cons, List.not_mem_nil, or_false] at hp; rcases hp with rfl <;> (simp only at e ⊢; omega)))
    | n + 24, _, _ => trivial
   ·
    intro u330 w331 hW332 hPr335 hp333 hal334
    have hz337 := hW332.size
    have hC336 := hC29.step1 hW332 (by omega)
    have hb338 : Blk w331 g22 #[.int .u64 0, .int .u64 0] 25 := hPr335 23 (.inr (.one (by kernel_rfl)))
    have hb339 := ((hb5.pure hc17).pure hc27).chg1 hW332 (by omega)
    refine WR.load (dst := some 80) (t := 23) (o := 0) hb339 (by kernel_rfl) (.int .u64 a2.Lo) (by kernel_rfl) ?_
    refine WR.fin (by kernel_rfl) ?_
    exact fun _ ha => ⟨Chg.refl _ _, _, ha, ⟨⟨fun h => absurd h (by decide), alNone (by decide)⟩, rfl⟩⟩
   ·
    intro u340 w341 hW342 hPr345 hp343 hal344
    have hz347 := hW342.size
    have hC346 := hC29.step1 hW342 (by omega)
    have hb348 : Blk w341 g22 #[.int .u64 0, .int .u64 0] 25 := hPr345 23 (.inr (.one (by kernel_rfl)))
    have hb349 := (hb15.pure hc27).chg1 hW342 (by omega)
    refine WR.load (dst := some 82) (t := 23) (o := 0) hb349 (by kernel_rfl) (.int .u64 a3.Lo) (by kernel_rfl) ?_
    refine WR.fin (by kernel_rfl) ?_
    exact fun _ ha => ⟨Chg.refl _ _, _, ha, ⟨⟨fun h => absurd h (by decide), alNone (by decide)⟩, rfl⟩⟩
   ·
    intro u350 w351 hW352 hPr355 hp353 hal354
    have hz357 := hW352.size
    have hC356 := hC29.step1 hW352 (by omega)
    have hb358 : Blk w351 g22 #[.int .u64 0, .int .u64 0] 25 := hPr355 23 (.inr (.one (by kernel_rfl)))
    have hb359 := ((hb5.pure hc17).pure hc27).chg1 hW352 (by omega)
    refine WR.load (dst := some 85) (t := 23) (o := 1) hb359 (by kernel_rfl) (.int .u64 a2.Hi) (by kernel_rfl) ?_
    refine WR.fin (by kernel_rfl) ?_
    exact fun _ ha => ⟨Chg.refl _ _, _, ha, ⟨⟨fun h => absurd h (by decide), alNone (by decide)⟩, rfl⟩⟩
   ·
    intro u360 w361 hW362 hPr365 hp363 hal364
    have hz367 := hW362.size
    have hC366 := hC29.step1 hW362 (by omega)
    have hb368 : Blk w361 g22 #[.int .u64 0, .int .u64 0] 25 := hPr365 23 (.inr (.one (by kernel_rfl)))
    have hb369 := (hb15.pure hc27).chg1 hW362 (by omega)
    refine WR.load (dst := some 87) (t := 23) (o := 1) hb369 (by kernel_rfl) (.int .u64 a3.Hi) (by kernel_rfl) ?_
    refine WR.fin (by kernel_rfl) ?_
    exact fun _ ha => ⟨Chg.refl _ _, _, ha, ⟨⟨fun h => absurd h (by decide), alNone (by decide)⟩, rfl⟩⟩
   ·
    intro u370 w371 hW372 hPr375 hp373 hal374
    have hz377 := hW372.size
    have hC376 := hC29.step1 hW372 (by omega)
    have hb378 : Blk w371 g22 #[.int .u64 0, .int .u64 0] 25 := hPr375 23 (.inr (.step (k := 14) (by kernel_rfl) (.step (k := 13) (by kernel_rfl) (.one (by kernel_rfl)))))
    have hb379 := (hb15.pure hc27).chg1 hW372 (by omega)
    refine WR.load (dst := some 91) (t := 23) (o := 1) hb379 (by kernel_rfl) (.int .u64 a3.Hi) (by kernel_rfl) ?_
    refine WR.fin (by kernel_rfl) ?_
    exact fun _ ha => ⟨Chg.refl _ _, _, ha, ⟨⟨fun h => absurd h (by decide), alNone (by decide)⟩, rfl⟩⟩
   ·
    intro u380 w381 hW382 hPr385 hp383 hal384
    have hz387 := hW382.size
    have hC386 := hC29.step1 hW382 (by omega)
    have hb388 : Blk w381 g22 #[.int .u64 0, .int .u64 0] 25 := hPr385 23 (.inr (.step (k := 14) (by kernel_rfl) (.one (by kernel_rfl))))
    refine WR.valR (dst := some 92) (v := .bool (a3.Hi == (0 : Int))) (w' := w381) (by kernel_rfl) ?_
    have hk389 : (a3.Hi == (0 : Int)) = true := ht328
    rw [hk389]
    refine WR.fin (by kernel_rfl) ?_
    exact fun _ ha => ⟨Chg.refl _ _, _, ha, ⟨⟨fun h => absurd h (by decide), alNone (by decide)⟩, rfl⟩⟩
   ·
    intro u390 w391 hW392 _ hp393 hal394
    have hz397 := hW392.size
    have hC396 := hC29.step1 hW392 (by omega)
    refine WR.pass1 (dst := some 94) (by kernel_rfl) ?_
    refine WR.fin (by kernel_rfl) ?_
    exact fun _ ha => ⟨Chg.refl _ _, _, ha, ⟨⟨fun h => absurd h (by decide), alNone (by decide)⟩, rfl⟩⟩
   ·
    intro u398 w399 hW400 _ hp401 hal402
    have hz405 := hW400.size
    have hC404 := hC29.step1 hW400 (by omega)
    refine WR.pass1 (dst := some 95) (by kernel_rfl) ?_
    refine WR.fin (by kernel_rfl) ?_
    exact fun _ ha => ⟨Chg.refl _ _, _, ha, ⟨⟨fun h => absurd h (by decide), alNone (by decide)⟩, rfl⟩⟩
   ·
    intro u406 w407 hW408 _ hp409 hal410
    have hz413 := hW408.size
    have hC412 := hC29.step1 hW408 (by omega)
    refine WR.pass1 (dst := some 96) (by kernel_rfl) ?_
    refine WR.fin (by kernel_rfl) ?_
    exact fun _ ha => ⟨Chg.refl _ _, _, ha, ⟨⟨fun h => absurd h (by decide), alNone (by decide)⟩, rfl⟩⟩
   ·
    intro u414 w415 hW416 _ hp417 hal418
    have hz421 := hW416.size
    have hC420 := hC29.step1 hW416 (by omega)
    refine WR.pass1 (dst := some 97) (by kernel_rfl) ?_
    refine WR.fin (by kernel_rfl) ?_
    exact fun _ ha => ⟨Chg.refl _ _, _, ha, ⟨⟨fun h => absurd h (by decide), alNone (by decide)⟩, rfl⟩⟩
   ·
    intro u422 w423 hW424 _ hp425 hal426
    have hz429 := hW424.size
    have hC428 := hC29.step1 hW424 (by omega)
    refine WR.pass1 (dst := some 98) (by kernel_rfl) ?_
    refine WR.fin (by kernel_rfl) ?_
    exact fun _ ha => ⟨Chg.refl _ _, _, ha, ⟨⟨fun h => absurd h (by decide), alNone (by decide)⟩, rfl⟩⟩
   ·
    intro u430 w431 hW432 _ hp433 hal434
    have hz437 := hW432.size
    have hC436 := hC29.step1 hW432 (by omega)
    refine WR.pass1 (dst := some 99) (by kernel_rfl) ?_
    refine WR.fin (by kernel_rfl) ?_
    exact fun _ ha => ⟨Chg.refl _ _, _, ha, ⟨⟨fun h => absurd h (by decide), alNone (by decide)⟩, rfl⟩⟩
   ·
    intro u438 w439 hW440 _ hp441 hal442
    have hz445 := hW440.size
    have hC444 := hC29.step1 hW440 (by omega)
    refine WR.pass1 (dst := some 100) (by kernel_rfl) ?_
    refine WR.fin (by kernel_rfl) ?_
    exact fun _ ha => ⟨Chg.refl _ _, _, ha, ⟨⟨fun h => absurd h (by decide), alNone (by decide)⟩, rfl⟩⟩
   ·
    intro u446 w447 hW448 hPr451 hp449 hal450
    have hz453 := hW448.size
    have hC452 := hC29.step1 hW448 (by omega)
    have hb454 : Blk w447 g22 #[.int .u64 0, .int .u64 0] 25 := hPr451 23 (.inl rfl)
    refine WR.store (t := 25) (o := 0) (v := .agg #[.int .u64 (IntKind.u64.wrap (a2.Lo * a3.Lo)), .int .u64 (IntKind.u64.wrap (a2.Hi * a3.Hi))]) hb454 (by kernel_rfl) #[.int .u64 (IntKind.u64.wrap (a2.Lo * a3.Lo)), .int .u64 (IntKind.u64.wrap (a2.Hi * a3.Hi))] (by kernel_rfl) ?_
    intro w455 hb456 hc457
    have hz459 := hc457.size
    have hC458 := hC452.step1 hc457 (by omega)
    refine WR.fin (by kernel_rfl) ?_
    exact fun _ ha => ⟨hc457, undef, ha, ⟨⟨fun h => absurd h (by decide), alNone (by decide)⟩, hb456⟩⟩
   intro u460 w461 hW462 hr463 _ _
   have hz467 := hW462.size
   have hC466 := hC29.step1 hW462 (by omega)
   have hp468 : Blk w461 g22 #[.int .u64 (IntKind.u64.wrap (a2.Lo * a3.Lo)), .int .u64 (IntKind.u64.wrap (a2.Hi * a3.Hi))] 25 := hr463 23 (by omega) (by kernel_rfl)
   refine WR.keep [8, 101] (F' := [(8, pt g22 0), (101, .bool true)]) (by kernel_rfl) ?_
   refine WR.batch 1 [(8, pt g22 0), (9, .bool true)] (by kernel_rfl) ?_
   refine WR.fin (by kernel_rfl) ?_
   refine go hK327 ?_
   refine CW.ret ?_
   exact retC [.agg #[.int .u64 (IntKind.u64.wrap (a2.Lo * a3.Lo)), .int .u64 (IntKind.u64.wrap (a2.Hi * a3.Hi))], .bool true] _ rfl ⟨resCell hp468 rfl (by kernel_rfl), rfl, trivial⟩ (⟨hC466, (congrArg (fun r : (TSpan × Bool) => (.tuple #[TSpan.v r.1, .bool r.2] : Value)) hs329).symm⟩)
  have hs469 := ifF ht328 hs326
  have ht328p : a3.Hi ≠ (0 : Int) := (bEqF ht328)
  refine CW.keep [1, 6, 7, 8] (F' := [(1, .int .u64 a1), (6, pt g2 0), (7, pt g12 0), (8, pt g22 0)]) (by kernel_rfl) ?_
  refine CW.regionG 24 [some (pt g2 0), some (.int .u64 a2.Lo), some (pt g12 0), some (.int .u64 a3.Lo), some (.int .u64 (IntKind.u64.wrap (a2.Lo * a3.Lo))), some (pt g2 1), some (.int .u64 a2.Hi), some (pt g12 1), some (.int .u64 a3.Hi), some (.int .u64 (IntKind.u64.wrap (a2.Hi * a3.Hi))), some (.agg #[.int .u64 (IntKind.u64.wrap (a2.Lo * a3.Lo)), .int .u64 (IntKind.u64.wrap (a2.Hi * a3.Hi))]), some (pt g12 1), some (.int .u64 a3.Hi), some (.bool false), some (.bool false), some (pt g2 1), some (.int .u64 a2.Hi), some (.int .u64 a1), some (pt g12 1), some (.int .u64 a3.Hi), some (.int .u64 (IntKind.u64.wrap ((a1).tdiv a3.Hi))), some (.bool (decide (a2.Hi ≤ (IntKind.u64.wrap ((a1).tdiv a3.Hi))))), some (.bool (decide (a2.Hi ≤ (IntKind.u64.wrap ((a1).tdiv a3.Hi))))), none] (fun u => [(79, pt g2 0), (80, .int .u64 a2.Lo), (81, pt g12 0), (82, .int .u64 a3.Lo), (83, .int .u64 (IntKind.u64.wrap (a2.Lo * a3.Lo))), (84, pt g2 1), (85, .int .u64 a2.Hi), (86, pt g12 1), (87, .int .u64 a3.Hi), (88, .int .u64 (IntKind.u64.wrap (a2.Hi * a3.Hi))), (89, .agg #[.int .u64 (IntKind.u64.wrap (a2.Lo * a3.Lo)), .int .u64 (IntKind.u64.wrap (a2.Hi * a3.Hi))]), (90, pt g12 1), (91, .int .u64 a3.Hi), (92, .bool false), (93, .bool false), (94, pt g2 1), (95, .int .u64 a2.Hi), (96, .int .u64 a1), (97, pt g12 1), (98, .int .u64 a3.Hi), (99, .int .u64 (IntKind.u64.wrap ((a1).tdiv a3.Hi))), (100, .bool (decide (a2.Hi ≤ (IntKind.u64.wrap ((a1).tdiv a3.Hi))))), (101, .bool (decide (a2.Hi ≤ (IntKind.u64.wrap ((a1).tdiv a3.Hi))))), (1, .int .u64 a1), (6, pt g2 0), (7, pt g12 0), (8, pt g22 0)]) (fun _ => by kernel_rfl) (by kernel_rfl) [(23, g22)] (fun i w' => match i with | 0 => True | 1 => True | 2 => True | 3 => True | 4 => True | 5 => True | 6 => True | 7 => True | 8 => True | 9 => True | 10 => True | 11 => True | 12 => True | 13 => True | 14 => True | 15 => True | 16 => True | 17 => True | 18 => True | 19 => True | 20 => True | 21 => True | 22 => True | 23 => Blk w' g22 #[.int .u64 0, .int .u64 0] 25 | _ => True) (fun j => match j with | 0 => trivial | 1 => trivial | 2 => trivial | 3 => trivial | 4 => trivial | 5 => trivial | 6 => trivial | 7 => trivial | 8 => trivial | 9 => trivial | 10 => trivial | 11 => trivial | 12 => trivial | 13 => trivial | 14 => trivial | 15 => trivial | 16 => trivial | 17 => trivial | 18 => trivial | 19 => trivial | 20 => trivial | 21 => trivial | 22 => trivial | 23 => hb25.pure (Chg.drew w23) | j + 24 => trivial) ?_ [] [] (by kernel_rfl) (fun w' => Chg [g22] w23 w') (fun i v w' => match i with | 0 => True | 1 => True | 2 => True | 3 => True | 4 => True | 5 => True | 6 => True | 7 => True | 8 => True | 9 => True | 10 => True | 11 => True | 12 => True | 13 => True | 14 => True | 15 => True | 16 => True | 17 => True | 18 => True | 19 => True | 20 => True | 21 => True | 22 => True | 23 => Blk w' g22 #[.int .u64 (IntKind.u64.wrap (a2.Lo * a3.Lo)), .int .u64 (IntKind.u64.wrap (a2.Hi * a3.Hi))] 25 | _ => True) (fun j x w hj h => absurd hj (by simp)) (by kernel_rfl) (by kernel_rfl) (by kernel_rfl) (by kernel_rfl) ((Chg.drew w23).weak (by simp)) (fun _ _ _ h h' => h.step h' (fun t ht => .inl (cL_sub t ht))) ?_ (obsG_batch 1 0 23 (fun _ _ => by kernel_rfl) (by kernel_rfl) ⟨?_, (obsG_batch 1 2 21 (fun _ _ => by kernel_rfl) (by kernel_rfl) ⟨?_, (obsG_batch 2 4 18 (fun _ _ => by kernel_rfl) (by kernel_rfl) ⟨?_, (obsG_batch 1 7 16 (fun _ _ => by kernel_rfl) (by kernel_rfl) ⟨?_, (obsG_batch 3 9 12 (fun _ _ => by kernel_rfl) (by kernel_rfl) ⟨?_, ⟨?_, (obsG_batch 1 14 9 (fun _ _ => by kernel_rfl) (by kernel_rfl) ⟨?_, ⟨?_, ⟨?_, ⟨?_, ⟨?_, ⟨?_, ⟨?_, (obsG_batch 1 22 1 (fun _ _ => by kernel_rfl) (by kernel_rfl) ⟨?_, trivial⟩)⟩⟩⟩⟩⟩⟩⟩)⟩⟩)⟩)⟩)⟩)⟩) ?_
  ·
   intro i j w1 w2 hij h hc
   match j, hij, h with
   | 0, hij, h => exact trivial
   | 1, hij, h => exact trivial
   | 2, hij, h => exact trivial
   | 3, hij, h => exact trivial
   | 4, hij, h => exact trivial
   | 5, hij, h => exact trivial
   | 6, hij, h => exact trivial
   | 7, hij, h => exact trivial
   | 8, hij, h => exact trivial
   | 9, hij, h => exact trivial
   | 10, hij, h => exact trivial
   | 11, hij, h => exact trivial
   | 12, hij, h => exact trivial
   | 13, hij, h => exact trivial
   | 14, hij, h => exact trivial
   | 15, hij, h => exact trivial
   | 16, hij, h => exact trivial
   | 17, hij, h => exact trivial
   | 18, hij, h => exact trivial
   | 19, hij, h => exact trivial
   | 20, hij, h => exact trivial
   | 21, hij, h => exact trivial
   | 22, hij, h => exact trivial
   | 23, hij, h => exact h.chg hc (cL_not (by intro p hp e; simp only [List.mem_cons, List.not_mem_nil, or_false] at hp; rcases hp with rfl <;> (simp only at e ⊢; omega)))
   | n + 24, _, _ => trivial
  ·
   intro i j v w1 w2 hij h hc
   match j, hij, h with
   | 0, _, _ => trivial
   | 1, _, _ => trivial
   | 2, _, _ => trivial
   | 3, _, _ => trivial
   | 4, _, _ => trivial
   | 5, _, _ => trivial
   | 6, _, _ => trivial
   | 7, _, _ => trivial
   | 8, _, _ => trivial
   | 9, _, _ => trivial
   | 10, _, _ => trivial
   | 11, _, _ => trivial
   | 12, _, _ => trivial
   | 13, _, _ => trivial
   | 14, _, _ => trivial
   | 15, _, _ => trivial
   | 16, _, _ => trivial
   | 17, _, _ => trivial
   | 18, _, _ => trivial
   | 19, _, _ => trivial
   | 20, _, _ => trivial
   | 21, _, _ => trivial
   | 22, _, _ => trivial
   | 23, hij, h => exact h.chg hc (cL_not (by intro p hp e; simp only [List.mem_cons, List.not_mem_nil, or_false] at hp; rcases hp with rfl <;> (simp only at e ⊢; omega)))
   | n + 24, _, _ => trivial
  ·
   intro u470 w471 hW472 hPr475 hp473 hal474
   have hz477 := hW472.size
   have hC476 := hC29.step1 hW472 (by omega)
   have hb478 : Blk w471 g22 #[.int .u64 0, .int .u64 0] 25 := hPr475 23 (.inr (.one (by kernel_rfl)))
   have hb479 := ((hb5.pure hc17).pure hc27).chg1 hW472 (by omega)
   refine WR.load (dst := some 80) (t := 23) (o := 0) hb479 (by kernel_rfl) (.int .u64 a2.Lo) (by kernel_rfl) ?_
   refine WR.fin (by kernel_rfl) ?_
   exact fun _ ha => ⟨Chg.refl _ _, _, ha, ⟨⟨fun h => absurd h (by decide), alNone (by decide)⟩, rfl⟩⟩
  ·
   intro u480 w481 hW482 hPr485 hp483 hal484
   have hz487 := hW482.size
   have hC486 := hC29.step1 hW482 (by omega)
   have hb488 : Blk w481 g22 #[.int .u64 0, .int .u64 0] 25 := hPr485 23 (.inr (.one (by kernel_rfl)))
   have hb489 := (hb15.pure hc27).chg1 hW482 (by omega)
   refine WR.load (dst := some 82) (t := 23) (o := 0) hb489 (by kernel_rfl) (.int .u64 a3.Lo) (by kernel_rfl) ?_
   refine WR.fin (by kernel_rfl) ?_
   exact fun _ ha => ⟨Chg.refl _ _, _, ha, ⟨⟨fun h => absurd h (by decide), alNone (by decide)⟩, rfl⟩⟩
  ·
   intro u490 w491 hW492 hPr495 hp493 hal494
   have hz497 := hW492.size
   have hC496 := hC29.step1 hW492 (by omega)
   have hb498 : Blk w491 g22 #[.int .u64 0, .int .u64 0] 25 := hPr495 23 (.inr (.one (by kernel_rfl)))
   have hb499 := ((hb5.pure hc17).pure hc27).chg1 hW492 (by omega)
   refine WR.load (dst := some 85) (t := 23) (o := 1) hb499 (by kernel_rfl) (.int .u64 a2.Hi) (by kernel_rfl) ?_
   refine WR.fin (by kernel_rfl) ?_
   exact fun _ ha => ⟨Chg.refl _ _, _, ha, ⟨⟨fun h => absurd h (by decide), alNone (by decide)⟩, rfl⟩⟩
  ·
   intro u500 w501 hW502 hPr505 hp503 hal504
   have hz507 := hW502.size
   have hC506 := hC29.step1 hW502 (by omega)
   have hb508 : Blk w501 g22 #[.int .u64 0, .int .u64 0] 25 := hPr505 23 (.inr (.one (by kernel_rfl)))
   have hb509 := (hb15.pure hc27).chg1 hW502 (by omega)
   refine WR.load (dst := some 87) (t := 23) (o := 1) hb509 (by kernel_rfl) (.int .u64 a3.Hi) (by kernel_rfl) ?_
   refine WR.fin (by kernel_rfl) ?_
   exact fun _ ha => ⟨Chg.refl _ _, _, ha, ⟨⟨fun h => absurd h (by decide), alNone (by decide)⟩, rfl⟩⟩
  ·
   intro u510 w511 hW512 hPr515 hp513 hal514
   have hz517 := hW512.size
   have hC516 := hC29.step1 hW512 (by omega)
   have hb518 : Blk w511 g22 #[.int .u64 0, .int .u64 0] 25 := hPr515 23 (.inr (.step (k := 14) (by kernel_rfl) (.step (k := 13) (by kernel_rfl) (.one (by kernel_rfl)))))
   have hb519 := (hb15.pure hc27).chg1 hW512 (by omega)
   refine WR.load (dst := some 91) (t := 23) (o := 1) hb519 (by kernel_rfl) (.int .u64 a3.Hi) (by kernel_rfl) ?_
   refine WR.fin (by kernel_rfl) ?_
   exact fun _ ha => ⟨Chg.refl _ _, _, ha, ⟨⟨fun h => absurd h (by decide), alNone (by decide)⟩, rfl⟩⟩
  ·
   intro u520 w521 hW522 hPr525 hp523 hal524
   have hz527 := hW522.size
   have hC526 := hC29.step1 hW522 (by omega)
   have hb528 : Blk w521 g22 #[.int .u64 0, .int .u64 0] 25 := hPr525 23 (.inr (.step (k := 14) (by kernel_rfl) (.one (by kernel_rfl))))
   refine WR.valR (dst := some 92) (v := .bool (a3.Hi == (0 : Int))) (w' := w521) (by kernel_rfl) ?_
   have hk529 : (a3.Hi == (0 : Int)) = false := ht328
   rw [hk529]
   refine WR.fin (by kernel_rfl) ?_
   exact fun _ ha => ⟨Chg.refl _ _, _, ha, ⟨⟨fun h => absurd h (by decide), alNone (by decide)⟩, rfl⟩⟩
  ·
   intro u530 w531 hW532 _ hp533 hal534
   have hz537 := hW532.size
   have hC536 := hC29.step1 hW532 (by omega)
   refine WR.valR (dst := some 94) (v := pt g2 1) (w' := w531) (by kernel_rfl) ?_
   refine WR.fin (by kernel_rfl) ?_
   exact fun _ ha => ⟨Chg.refl _ _, _, ha, ⟨⟨fun h => absurd h (by decide), alNone (by decide)⟩, rfl⟩⟩
  ·
   intro u538 w539 hW540 _ hp541 hal542
   have hz545 := hW540.size
   have hC544 := hC29.step1 hW540 (by omega)
   have hb546 := ((hb5.pure hc17).pure hc27).chg1 hW540 (by omega)
   refine WR.load (dst := some 95) (t := 23) (o := 1) hb546 (by kernel_rfl) (.int .u64 a2.Hi) (by kernel_rfl) ?_
   refine WR.fin (by kernel_rfl) ?_
   exact fun _ ha => ⟨Chg.refl _ _, _, ha, ⟨⟨fun h => absurd h (by decide), alNone (by decide)⟩, rfl⟩⟩
  ·
   intro u547 w548 hW549 _ hp550 hal551
   have hz554 := hW549.size
   have hC553 := hC29.step1 hW549 (by omega)
   refine WR.valR (dst := some 96) (v := .int .u64 a1) (w' := w548) (by kernel_rfl) ?_
   refine WR.fin (by kernel_rfl) ?_
   exact fun _ ha => ⟨Chg.refl _ _, _, ha, ⟨⟨fun h => absurd h (by decide), alNone (by decide)⟩, rfl⟩⟩
  ·
   intro u555 w556 hW557 _ hp558 hal559
   have hz562 := hW557.size
   have hC561 := hC29.step1 hW557 (by omega)
   refine WR.valR (dst := some 97) (v := pt g12 1) (w' := w556) (by kernel_rfl) ?_
   refine WR.fin (by kernel_rfl) ?_
   exact fun _ ha => ⟨Chg.refl _ _, _, ha, ⟨⟨fun h => absurd h (by decide), alNone (by decide)⟩, rfl⟩⟩
  ·
   intro u563 w564 hW565 _ hp566 hal567
   have hz570 := hW565.size
   have hC569 := hC29.step1 hW565 (by omega)
   have hb571 := (hb15.pure hc27).chg1 hW565 (by omega)
   refine WR.load (dst := some 98) (t := 23) (o := 1) hb571 (by kernel_rfl) (.int .u64 a3.Hi) (by kernel_rfl) ?_
   refine WR.fin (by kernel_rfl) ?_
   exact fun _ ha => ⟨Chg.refl _ _, _, ha, ⟨⟨fun h => absurd h (by decide), alNone (by decide)⟩, rfl⟩⟩
  ·
   intro u572 w573 hW574 _ hp575 hal576
   have hz579 := hW574.size
   have hC578 := hC29.step1 hW574 (by omega)
   refine WR.valR (dst := some 99) (v := .int .u64 (IntKind.u64.wrap ((a1).tdiv a3.Hi))) (w' := w573) (run_quo (kk := .u64) (x := a1) (y := a3.Hi) (by kernel_rfl) (by omega) w573) ?_
   refine WR.fin (by kernel_rfl) ?_
   exact fun _ ha => ⟨Chg.refl _ _, _, ha, ⟨⟨fun h => absurd h (by decide), alNone (by decide)⟩, rfl⟩⟩
  ·
   intro u580 w581 hW582 _ hp583 hal584
   have hz587 := hW582.size
   have hC586 := hC29.step1 hW582 (by omega)
   refine WR.valR (dst := some 100) (v := .bool (decide (a2.Hi ≤ (IntKind.u64.wrap ((a1).tdiv a3.Hi))))) (w' := w581) (by kernel_rfl) ?_
   refine WR.fin (by kernel_rfl) ?_
   exact fun _ ha => ⟨Chg.refl _ _, _, ha, ⟨⟨fun h => absurd h (by decide), alNone (by decide)⟩, rfl⟩⟩
  ·
   intro u588 w589 hW590 hPr593 hp591 hal592
   have hz595 := hW590.size
   have hC594 := hC29.step1 hW590 (by omega)
   have hb596 : Blk w589 g22 #[.int .u64 0, .int .u64 0] 25 := hPr593 23 (.inl rfl)
   refine WR.store (t := 25) (o := 0) (v := .agg #[.int .u64 (IntKind.u64.wrap (a2.Lo * a3.Lo)), .int .u64 (IntKind.u64.wrap (a2.Hi * a3.Hi))]) hb596 (by kernel_rfl) #[.int .u64 (IntKind.u64.wrap (a2.Lo * a3.Lo)), .int .u64 (IntKind.u64.wrap (a2.Hi * a3.Hi))] (by kernel_rfl) ?_
   intro w597 hb598 hc599
   have hz601 := hc599.size
   have hC600 := hC594.step1 hc599 (by omega)
   refine WR.fin (by kernel_rfl) ?_
   exact fun _ ha => ⟨hc599, undef, ha, ⟨⟨fun h => absurd h (by decide), alNone (by decide)⟩, hb598⟩⟩
  intro u602 w603 hW604 hr605 _ _
  have hz609 := hW604.size
  have hC608 := hC29.step1 hW604 (by omega)
  have hp610 : Blk w603 g22 #[.int .u64 (IntKind.u64.wrap (a2.Lo * a3.Lo)), .int .u64 (IntKind.u64.wrap (a2.Hi * a3.Hi))] 25 := hr605 23 (by omega) (by kernel_rfl)
  refine WR.keep [8, 101] (F' := [(8, pt g22 0), (101, .bool (decide (a2.Hi ≤ (IntKind.u64.wrap ((a1).tdiv a3.Hi)))))]) (by kernel_rfl) ?_
  refine WR.batch 1 [(8, pt g22 0), (9, .bool (decide (a2.Hi ≤ (IntKind.u64.wrap ((a1).tdiv a3.Hi)))))] (by kernel_rfl) ?_
  refine WR.fin (by kernel_rfl) ?_
  refine go hK327 ?_
  refine CW.ret ?_
  exact retC [.agg #[.int .u64 (IntKind.u64.wrap (a2.Lo * a3.Lo)), .int .u64 (IntKind.u64.wrap (a2.Hi * a3.Hi))], .bool (decide (a2.Hi ≤ (IntKind.u64.wrap ((a1).tdiv a3.Hi))))] _ rfl ⟨resCell hp610 rfl (by kernel_rfl), rfl, trivial⟩ (⟨hC608, (congrArg (fun r : (TSpan × Bool) => (.tuple #[TSpan.v r.1, .bool r.2] : Value)) hs469).symm⟩)
 have hs611 := ifF ht325 hs323
 replace ht325 : a0 ≠ (3 : Int) := (bEqF ht325)
 refine CW.skip ?_
 refine go hK32 ?_
 refine CW.seq fun K612 hK612 => ?_
 refine CW.seq fun K613 hK613 => ?_
 refine CW.region ?_
 refine WR.batch 1 [(1, .int .u64 a1), (6, pt g2 0), (8, pt g22 0), (102, pt g2 1)] (by kernel_rfl) ?_
 have hb614 := (hb5.pure hc17).pure hc27
 refine WR.load (dst := some 103) (t := 23) (o := 1) hb614 (by kernel_rfl) (.int .u64 a2.Hi) (by kernel_rfl) ?_
 refine WR.batch 1 [(1, .int .u64 a1), (6, pt g2 0), (8, pt g22 0), (104, .bool (a2.Hi == (0 : Int)))] (by kernel_rfl) ?_
 refine WR.fin (by kernel_rfl) ?_
 refine go hK613 ?_
 refine CW.cond ((a2.Hi == (0 : Int))) (by kernel_rfl) (fun ht615 => ?_) (fun ht615 => ?_)
 ·
  have hs616 := ifT ht615 hs611
  replace ht615 : a2.Hi = (0 : Int) := (bEqT ht615)
  refine CW.seq fun K617 hK617 => ?_
  refine CW.region ?_
  refine WR.load (dst := some 105) (t := 25) (o := 0) hb614 (by kernel_rfl) (.agg #[.int .u64 a2.Lo, .int .u64 a2.Hi]) (by kernel_rfl) ?_
  refine WR.store (t := 25) (o := 0) (v := .agg #[.int .u64 a2.Lo, .int .u64 a2.Hi]) hb25 (by kernel_rfl) #[.int .u64 a2.Lo, .int .u64 a2.Hi] (by kernel_rfl) ?_
  intro w618 hb619 hc620
  have hz622 := hc620.size
  have hC621 := hC29.step1 hc620 (by omega)
  refine WR.batch 1 [(8, pt g22 0), (9, .bool true)] (by kernel_rfl) ?_
  refine WR.fin (by kernel_rfl) ?_
  refine go hK617 ?_
  refine CW.ret ?_
  exact retC [.agg #[.int .u64 a2.Lo, .int .u64 a2.Hi], .bool true] _ rfl ⟨resCell hb619 rfl (by kernel_rfl), rfl, trivial⟩ (⟨hC621, (congrArg (fun r : (TSpan × Bool) => (.tuple #[TSpan.v r.1, .bool r.2] : Value)) hs616).symm⟩)
 have hs623 := ifF ht615 hs611
 replace ht615 : a2.Hi ≠ (0 : Int) := (bEqF ht615)
 refine CW.skip ?_
 refine go hK612 ?_
 refine CW.seq fun K624 hK624 => ?_
 refine CW.keep [1, 6, 8] (F' := [(1, .int .u64 a1), (6, pt g2 0), (8, pt g22 0)]) (by kernel_rfl) ?_
 refine CW.regionG 15 [some (pt g2 1), some (.int .u64 a2.Hi), some (.int .u64 (IntKind.u64.wrap ((0 : Int) - a2.Hi))), some (.int .u64 a1), some (.int .u64 (bAnd .u64 (IntKind.u64.wrap ((0 : Int) - a2.Hi)) a1)), some (pt g2 0), some (.int .u64 a2.Lo), some (.int .u64 (IntKind.u64.wrap ((0 : Int) - a2.Lo))), some (.int .u64 a1), some (.int .u64 (bAnd .u64 (IntKind.u64.wrap ((0 : Int) - a2.Lo)) a1)), some (.agg #[.int .u64 (bAnd .u64 (IntKind.u64.wrap ((0 : Int) - a2.Hi)) a1), .int .u64 (bAnd .u64 (IntKind.u64.wrap ((0 : Int) - a2.Lo)) a1)]), some (pt g2 0), some (.int .u64 a2.Lo), some (.bool (decide (a2.Lo > (0 : Int)))), none] (fun u => [(106, pt g2 1), (107, .int .u64 a2.Hi), (108, .int .u64 (IntKind.u64.wrap ((0 : Int) - a2.Hi))), (109, .int .u64 a1), (110, .int .u64 (bAnd .u64 (IntKind.u64.wrap ((0 : Int) - a2.Hi)) a1)), (111, pt g2 0), (112, .int .u64 a2.Lo), (113, .int .u64 (IntKind.u64.wrap ((0 : Int) - a2.Lo))), (114, .int .u64 a1), (115, .int .u64 (bAnd .u64 (IntKind.u64.wrap ((0 : Int) - a2.Lo)) a1)), (116, .agg #[.int .u64 (bAnd .u64 (IntKind.u64.wrap ((0 : Int) - a2.Hi)) a1), .int .u64 (bAnd .u64 (IntKind.u64.wrap ((0 : Int) - a2.Lo)) a1)]), (117, pt g2 0), (118, .int .u64 a2.Lo), (119, .bool (decide (a2.Lo > (0 : Int)))), (1, .int .u64 a1), (6, pt g2 0), (8, pt g22 0)]) (fun _ => by kernel_rfl) (by kernel_rfl) [(14, g22)] (fun i w' => match i with | 0 => True | 1 => True | 2 => True | 3 => True | 4 => True | 5 => True | 6 => True | 7 => True | 8 => True | 9 => True | 10 => True | 11 => True | 12 => True | 13 => True | 14 => Blk w' g22 #[.int .u64 0, .int .u64 0] 25 | _ => True) (fun j => match j with | 0 => trivial | 1 => trivial | 2 => trivial | 3 => trivial | 4 => trivial | 5 => trivial | 6 => trivial | 7 => trivial | 8 => trivial | 9 => trivial | 10 => trivial | 11 => trivial | 12 => trivial | 13 => trivial | 14 => hb25.pure (Chg.drew w23) | j + 15 => trivial) ?_ [] [] (by kernel_rfl) (fun w' => Chg [g22] w23 w') (fun i v w' => match i with | 0 => True | 1 => True | 2 => True | 3 => True | 4 => True | 5 => True | 6 => True | 7 => True | 8 => True | 9 => True | 10 => True | 11 => True | 12 => True | 13 => True | 14 => Blk w' g22 #[.int .u64 (bAnd .u64 (IntKind.u64.wrap ((0 : Int) - a2.Hi)) a1), .int .u64 (bAnd .u64 (IntKind.u64.wrap ((0 : Int) - a2.Lo)) a1)] 25 | _ => True) (fun j x w hj h => absurd hj (by simp)) (by kernel_rfl) (by kernel_rfl) (by kernel_rfl) (by kernel_rfl) ((Chg.drew w23).weak (by simp)) (fun _ _ _ h h' => h.step h' (fun t ht => .inl (cL_sub t ht))) ?_ (obsG_batch 1 0 14 (fun _ _ => by kernel_rfl) (by kernel_rfl) ⟨?_, (obsG_batch 4 2 9 (fun _ _ => by kernel_rfl) (by kernel_rfl) ⟨?_, (obsG_batch 5 7 3 (fun _ _ => by kernel_rfl) (by kernel_rfl) ⟨?_, (obsG_batch 1 13 1 (fun _ _ => by kernel_rfl) (by kernel_rfl) ⟨?_, trivial⟩)⟩)⟩)⟩) ?_
 ·
  intro i j w1 w2 hij h hc
  match j, hij, h with
  | 0, hij, h => exact trivial
  | 1, hij, h => exact trivial
  | 2, hij, h => exact trivial
  | 3, hij, h => exact trivial
  | 4, hij, h => exact trivial
  | 5, hij, h => exact trivial
  | 6, hij, h => exact trivial
  | 7, hij, h => exact trivial
  | 8, hij, h => exact trivial
  | 9, hij, h => exact trivial
  | 10, hij, h => exact trivial
  | 11, hij, h => exact trivial
  | 12, hij, h => exact trivial
  | 13, hij, h => exact trivial
  | 14, hij, h => exact h.chg hc (cL_not (by intro p hp e; simp only [List.mem_cons, List.not_mem_nil, or_false] at hp; rcases hp with rfl <;> (simp only at e ⊢; omega)))
  | n + 15, _, _ => trivial
 ·
  intro i j v w1 w2 hij h hc
  match j, hij, h with
  | 0, _, _ => trivial
  | 1, _, _ => trivial
  | 2, _, _ => trivial
  | 3, _, _ => trivial
  | 4, _, _ => trivial
  | 5, _, _ => trivial
  | 6, _, _ => trivial
  | 7, _, _ => trivial
  | 8, _, _ => trivial
  | 9, _, _ => trivial
  | 10, _, _ => trivial
  | 11, _, _ => trivial
  | 12, _, _ => trivial
  | 13, _, _ => trivial
  | 14, hij, h => exact h.chg hc (cL_not (by intro p hp e; simp only [List.mem_cons, List.not_mem_nil, or_false] at hp; rcases hp with rfl <;> (simp only at e ⊢; omega)))
  | n + 15, _, _ => trivial
 ·
  intro u625 w626 hW627 hPr630 hp628 hal629
  have hz632 := hW627.size
  have hC631 := hC29.step1 hW627 (by omega)
  have hb633 : Blk w626 g22 #[.int .u64 0, .int .u64 0] 25 := hPr630 14 (.inr (.one (by kernel_rfl)))
  have hb634 := hb614.chg1 hW627 (by omega)
  refine WR.load (dst := some 107) (t := 23) (o := 1) hb634 (by kernel_rfl) (.int .u64 a2.Hi) (by kernel_rfl) ?_
  refine WR.fin (by kernel_rfl) ?_
  exact fun _ ha => ⟨Chg.refl _ _, _, ha, ⟨⟨fun h => absurd h (by decide), alNone (by decide)⟩, rfl⟩⟩
 ·
  intro u635 w636 hW637 hPr640 hp638 hal639
  have hz642 := hW637.size
  have hC641 := hC29.step1 hW637 (by omega)
  have hb643 : Blk w636 g22 #[.int .u64 0, .int .u64 0] 25 := hPr640 14 (.inr (.one (by kernel_rfl)))
  have hb644 := hb614.chg1 hW637 (by omega)
  refine WR.load (dst := some 112) (t := 23) (o := 0) hb644 (by kernel_rfl) (.int .u64 a2.Lo) (by kernel_rfl) ?_
  refine WR.fin (by kernel_rfl) ?_
  exact fun _ ha => ⟨Chg.refl _ _, _, ha, ⟨⟨fun h => absurd h (by decide), alNone (by decide)⟩, rfl⟩⟩
 ·
  intro u645 w646 hW647 _ hp648 hal649
  have hz652 := hW647.size
  have hC651 := hC29.step1 hW647 (by omega)
  have hb653 := hb614.chg1 hW647 (by omega)
  refine WR.load (dst := some 118) (t := 23) (o := 0) hb653 (by kernel_rfl) (.int .u64 a2.Lo) (by kernel_rfl) ?_
  refine WR.fin (by kernel_rfl) ?_
  exact fun _ ha => ⟨Chg.refl _ _, _, ha, ⟨⟨fun h => absurd h (by decide), alNone (by decide)⟩, rfl⟩⟩
 ·
  intro u654 w655 hW656 hPr659 hp657 hal658
  have hz661 := hW656.size
  have hC660 := hC29.step1 hW656 (by omega)
  have hb662 : Blk w655 g22 #[.int .u64 0, .int .u64 0] 25 := hPr659 14 (.inl rfl)
  refine WR.store (t := 25) (o := 0) (v := .agg #[.int .u64 (bAnd .u64 (IntKind.u64.wrap ((0 : Int) - a2.Hi)) a1), .int .u64 (bAnd .u64 (IntKind.u64.wrap ((0 : Int) - a2.Lo)) a1)]) hb662 (by kernel_rfl) #[.int .u64 (bAnd .u64 (IntKind.u64.wrap ((0 : Int) - a2.Hi)) a1), .int .u64 (bAnd .u64 (IntKind.u64.wrap ((0 : Int) - a2.Lo)) a1)] (by kernel_rfl) ?_
  intro w663 hb664 hc665
  have hz667 := hc665.size
  have hC666 := hC660.step1 hc665 (by omega)
  refine WR.fin (by kernel_rfl) ?_
  exact fun _ ha => ⟨hc665, undef, ha, ⟨⟨fun h => absurd h (by decide), alNone (by decide)⟩, hb664⟩⟩
 intro u668 w669 hW670 hr671 _ _
 have hz675 := hW670.size
 have hC674 := hC29.step1 hW670 (by omega)
 have hp676 : Blk w669 g22 #[.int .u64 (bAnd .u64 (IntKind.u64.wrap ((0 : Int) - a2.Hi)) a1), .int .u64 (bAnd .u64 (IntKind.u64.wrap ((0 : Int) - a2.Lo)) a1)] 25 := hr671 14 (by omega) (by kernel_rfl)
 refine WR.keep [8, 119] (F' := [(8, pt g22 0), (119, .bool (decide (a2.Lo > (0 : Int))))]) (by kernel_rfl) ?_
 refine WR.batch 1 [(8, pt g22 0), (9, .bool (decide (a2.Lo > (0 : Int))))] (by kernel_rfl) ?_
 refine WR.fin (by kernel_rfl) ?_
 refine go hK624 ?_
 refine CW.ret ?_
 exact retC [.agg #[.int .u64 (bAnd .u64 (IntKind.u64.wrap ((0 : Int) - a2.Hi)) a1), .int .u64 (bAnd .u64 (IntKind.u64.wrap ((0 : Int) - a2.Lo)) a1)], .bool (decide (a2.Lo > (0 : Int)))] _ rfl ⟨resCell hp676 rfl (by kernel_rfl), rfl, trivial⟩ (⟨hC674, (congrArg (fun r : (TSpan × Bool) => (.tuple #[TSpan.v r.1, .bool r.2] : Value)) hs623).symm⟩)

theorem ref11_bits_two (a0 : Bool) : ref11_bits a0 = 32 ∨ ref11_bits a0 = 64 := by cases a0 <;> simp [ref11_bits]

def ref01_bit (a0 : Int) (a1 : Int)  : Bool := ((bAnd .u64 (sShr .u64 a0 (IntKind.u64.wrap a1)) (1 : Int)) == (1 : Int))

theorem ref01_bit_any (a0 : Int) (a1 : Int)   (w : World)  (_h_a0 : IU64 a0) (_h_a1 : II64 a1) (_hn : 0 ≤ a1) : Calls Try.prog 138 #[.int .u64 a0, .int .i64 a1] w (RetV w (.bool (ref01_bit a0 a1))) := by
 have hs := ref01_bit.eq_1 a0 a1
 refine calls_of_CW Try.func138 rfl (n := 11) Try.ntmps138 (by kernel_rfl) [0, 1] (F := [(0, .int .u64 a0), (1, .int .i64 a1)]) (by kernel_rfl) ?_
 refine CW.seq fun K1 hK1 => ?_
 refine CW.region ?_
 refine WR.batch 1 [(0, .int .u64 a0), (1, .int .i64 a1)] (by kernel_rfl) ?_
 refine WR.fin (by kernel_rfl) ?_
 refine go hK1 ?_
 refine CW.seq fun K2 hK2 => ?_
 refine CW.region ?_
 refine WR.batch 3 [(5, .int .u64 a0), (7, .int .u64 (IntKind.u64.wrap a1))] (by kernel_rfl) ?_
 refine WR.valR (dst := some 8) (v := .int .u64 (sShr .u64 a0 (IntKind.u64.wrap a1))) (w' := w) (run_shr (kk := .u64) (k' := .u64) (x := a0) (y := (IntKind.u64.wrap a1)) (by kernel_rfl) (show IU64 (IntKind.u64.wrap a1) from (wrapU64 _)).1 w) ?_
 refine WR.batch 3 [(4, .bool ((bAnd .u64 (sShr .u64 a0 (IntKind.u64.wrap a1)) (1 : Int)) == (1 : Int)))] (by kernel_rfl) ?_
 refine WR.fin (by kernel_rfl) ?_
 refine go hK2 ?_
 refine CW.ret ?_
 exact retV (.bool ((bAnd .u64 (sShr .u64 a0 (IntKind.u64.wrap a1)) (1 : Int)) == (1 : Int))) (by kernel_rfl) (⟨(Chg.refl _ _), (congrArg (fun r : Bool => (.bool r : Value)) hs).symm⟩)

def ref01_moved_L0 (a0 : Int) (a1 : Int) (a2 : Int) (a3 : Bool) : Nat → Int → Nat → Int
  | 0, _, _ => default
  | fu0 + 1, v9, v10 => (if decide (((v10 : Nat) : Int) < a2) then (if ((decide ((((v10 : Nat) : Int) - a1) ≥ (0 : Int))) && (decide ((((v10 : Nat) : Int) - a1) < a2))) then (letF (ref01_bit a0 (((v10 : Nat) : Int) - a1)) fun x20 => (if x20 then (ref01_moved_L0 a0 a1 a2 a3 fu0 (bOr .u64 v9 (sShl .u64 (1 : Int) (IntKind.u64.wrap ((v10 : Nat) : Int)))) (v10 + 1)) else (ref01_moved_L0 a0 a1 a2 a3 fu0 v9 (v10 + 1)))) else (if a3 then (ref01_moved_L0 a0 a1 a2 a3 fu0 (bOr .u64 v9 (sShl .u64 (1 : Int) (IntKind.u64.wrap ((v10 : Nat) : Int)))) (v10 + 1)) else (ref01_moved_L0 a0 a1 a2 a3 fu0 v9 (v10 + 1)))) else v9)

def ref01_moved (a0 : Int) (a1 : Int) (a2 : Int) (a3 : Bool)  : Int := (ref01_moved_L0 a0 a1 a2 a3 ((a2.toNat - 0) + 1) (0 : Int) 0)

theorem ref01_moved_L0_ok (a0 : Int) (a1 : Int) (a2 : Int) (a3 : Bool) (h_a0 : IU64 a0) (h_a1 : II64 a1) (h_a2 : II64 a2) (hn : -64 ≤ a1 ∧ a1 ≤ 64 ∧ 0 ≤ a2 ∧ a2 ≤ 64) : ∀ (XX : Nat) (v9 : Int) (v10 : Nat), (IU64 v9) → (v10 ≤ a2.toNat) → IU64 (ref01_moved_L0 a0 a1 a2 a3 XX v9 v10)
  | 0, _, _, _, _ => by rw [ref01_moved_L0.eq_1]; exact by decide
  | fu0 + 1, v9, v10, hr_v9, hk => by
   rw [ref01_moved_L0.eq_2]
   refine iteR (p := fun r : Int => IU64 r) (fun hi1001 => ?_) (fun hi1001 => ?_)
   ·
    replace hi1001 : ((v10 : Nat) : Int) < a2 := (of_decide_eq_true hi1001)
    refine iteR (p := fun r : Int => IU64 r) (fun hi1002 => ?_) (fun hi1002 => ?_)
    ·
     replace hi1002 : ((((v10 : Nat) : Int) - a1) ≥ (0 : Int)) ∧ ((((v10 : Nat) : Int) - a1) < a2) := ⟨(of_decide_eq_true (bAndT hi1002).1), (of_decide_eq_true (bAndT hi1002).2)⟩
     refine letR (p := fun r : Int => IU64 r) fun x20 _ => ?_
     refine iteR (p := fun r : Int => IU64 r) (fun hi1003 => ?_) (fun hi1003 => ?_)
     ·
      exact ref01_moved_L0_ok a0 a1 a2 a3 h_a0 h_a1 h_a2 hn fu0 (bOr .u64 v9 (sShl .u64 (1 : Int) (IntKind.u64.wrap ((v10 : Nat) : Int)))) (v10 + 1) (wrapU64 _) (by omega)
     exact ref01_moved_L0_ok a0 a1 a2 a3 h_a0 h_a1 h_a2 hn fu0 v9 (v10 + 1) (by omega) (by omega)
    replace hi1002 : (¬ ((((v10 : Nat) : Int) - a1) ≥ (0 : Int))) ∨ (¬ ((((v10 : Nat) : Int) - a1) < a2)) := (orMap (bAndF hi1002) (fun h => (of_decide_eq_false h)) (fun h => (of_decide_eq_false h)))
    refine iteR (p := fun r : Int => IU64 r) (fun hi1004 => ?_) (fun hi1004 => ?_)
    ·
     exact ref01_moved_L0_ok a0 a1 a2 a3 h_a0 h_a1 h_a2 hn fu0 (bOr .u64 v9 (sShl .u64 (1 : Int) (IntKind.u64.wrap ((v10 : Nat) : Int)))) (v10 + 1) (wrapU64 _) (by omega)
    exact ref01_moved_L0_ok a0 a1 a2 a3 h_a0 h_a1 h_a2 hn fu0 v9 (v10 + 1) (by omega) (by omega)
   replace hi1001 : ¬ (((v10 : Nat) : Int) < a2) := (of_decide_eq_false hi1001)
   exact (by exact (show IU64 v9 from (by omega)))

theorem ref01_moved_ok (a0 : Int) (a1 : Int) (a2 : Int) (a3 : Bool)  (h_a0 : IU64 a0) (h_a1 : II64 a1) (h_a2 : II64 a2) (hn : -64 ≤ a1 ∧ a1 ≤ 64 ∧ 0 ≤ a2 ∧ a2 ≤ 64) : IU64 (ref01_moved a0 a1 a2 a3) := by
 rw [ref01_moved.eq_1]
 exact ref01_moved_L0_ok a0 a1 a2 a3 h_a0 h_a1 h_a2 hn _ _ _ (by omega) (by omega)

set_option maxRecDepth 100000 in
set_option maxHeartbeats 4000000 in
theorem ref01_moved_any (a0 : Int) (a1 : Int) (a2 : Int) (a3 : Bool)   (w : World)  (_h_a0 : IU64 a0) (_h_a1 : II64 a1) (_h_a2 : II64 a2) (_hn : -64 ≤ a1 ∧ a1 ≤ 64 ∧ 0 ≤ a2 ∧ a2 ≤ 64) : Calls Try.prog 137 #[.int .u64 a0, .int .i64 a1, .int .i64 a2, .bool a3] w (RetV w (.int .u64 (ref01_moved a0 a1 a2 a3))) := by
 have hs := ref01_moved.eq_1 a0 a1 a2 a3
 refine calls_of_CW Try.func137 rfl (n := 39) Try.ntmps137 (by kernel_rfl) [0, 1, 2, 3] (F := [(0, .int .u64 a0), (1, .int .i64 a1), (2, .int .i64 a2), (3, .bool a3)]) (by kernel_rfl) ?_
 refine CW.seq fun K1 hK1 => ?_
 refine CW.region ?_
 refine WR.batch 1 [(0, .int .u64 a0), (1, .int .i64 a1), (2, .int .i64 a2), (3, .bool a3)] (by kernel_rfl) ?_
 refine WR.fin (by kernel_rfl) ?_
 refine go hK1 ?_
 refine CW.seq fun K2 hK2 => ?_
 refine CW.region ?_
 refine WR.batch 1 [(0, .int .u64 a0), (1, .int .i64 a1), (2, .int .i64 a2), (3, .bool a3), (9, .int .u64 0)] (by kernel_rfl) ?_
 refine WR.fin (by kernel_rfl) ?_
 refine go hK2 ?_
 refine CW.seq fun K3 hK3 => ?_
 refine CW.seq fun K4 hK4 => ?_
 refine CW.region ?_
 refine WR.batch 1 [(0, .int .u64 a0), (1, .int .i64 a1), (2, .int .i64 a2), (3, .bool a3), (9, .int .u64 0), (10, .int .i64 0)] (by kernel_rfl) ?_
 refine WR.fin (by kernel_rfl) ?_
 refine go hK4 ?_
 refine CW.block ?_
 refine CW.loop (σ := Int × Nat × Nat) (fun (⟨v9, v10, fu0⟩ : Int × Nat × Nat) w5 => Chg [] w w5 ∧ ((a2.toNat - v10) ≤ fu0) ∧ (IU64 v9) ∧ (v10 ≤ a2.toNat) ∧ ((ref01_moved a0 a1 a2 a3) = ref01_moved_L0 a0 a1 a2 a3 (fu0 + 1) v9 v10)) (fun (⟨v9, v10, fu0⟩ : Int × Nat × Nat) => [(0, .int .u64 a0), (1, .int .i64 a1), (2, .int .i64 a2), (3, .bool a3), (9, .int .u64 v9), (10, .int .i64 ((v10 : Nat) : Int))]) (fun (⟨v9, v10, fu0⟩ : Int × Nat × Nat) => (a2.toNat - v10)) (⟨(0 : Int), 0, (a2.toNat - 0)⟩) ⟨Chg.refl _ _, (by omega), (by omega), (by omega), hs⟩ [0, 1, 2, 3, 9, 10] (by kernel_rfl) ?_
 rintro ⟨v9, v10, fu0⟩ w5 ⟨hC6, hmu0, hr_v9, hk, hsl0⟩
 have hs7 := hsl0.trans (ref01_moved_L0.eq_2 _ _ _ _ _ _ _)
 refine CW.seq fun K8 hK8 => ?_
 refine CW.seq fun K9 hK9 => ?_
 refine CW.region ?_
 refine WR.batch 3 [(0, .int .u64 a0), (1, .int .i64 a1), (2, .int .i64 a2), (3, .bool a3), (9, .int .u64 v9), (10, .int .i64 ((v10 : Nat) : Int)), (15, .bool (decide (((v10 : Nat) : Int) < a2)))] (by kernel_rfl) ?_
 refine WR.fin (by kernel_rfl) ?_
 refine go hK9 ?_
 refine CW.cond (decide (((v10 : Nat) : Int) < a2)) (by kernel_rfl) (fun ht10 => ?_) (fun ht10 => ?_)
 ·
  have hs11 := ifT ht10 hs7
  replace ht10 : ((v10 : Nat) : Int) < a2 := (of_decide_eq_true ht10)
  refine CW.skip ?_
  refine go hK8 ?_
  refine CW.seq fun K12 hK12 => ?_
  refine CW.block ?_
  refine CW.seq fun K13 hK13 => ?_
  refine CW.region ?_
  refine WR.batch 3 [(0, .int .u64 a0), (1, .int .i64 a1), (2, .int .i64 a2), (3, .bool a3), (9, .int .u64 v9), (10, .int .i64 ((v10 : Nat) : Int)), (20, .int .i64 (IntKind.i64.wrap (((v10 : Nat) : Int) - a1)))] (by kernel_rfl) ?_
  have hw14 : IntKind.i64.wrap (((v10 : Nat) : Int) - a1) = (((v10 : Nat) : Int) - a1) := IntWalk.i64_in _ (by omega)
  refine WR.eqF (F' := [(0, .int .u64 a0), (1, .int .i64 a1), (2, .int .i64 a2), (3, .bool a3), (9, .int .u64 v9), (10, .int .i64 ((v10 : Nat) : Int)), (20, .int .i64 (((v10 : Nat) : Int) - a1))]) (by rw [hw14]) ?_
  refine WR.batch 1 [(0, .int .u64 a0), (1, .int .i64 a1), (2, .int .i64 a2), (3, .bool a3), (9, .int .u64 v9), (10, .int .i64 ((v10 : Nat) : Int)), (11, .int .i64 (((v10 : Nat) : Int) - a1))] (by kernel_rfl) ?_
  refine WR.fin (by kernel_rfl) ?_
  refine go hK13 ?_
  refine CW.seq fun K15 hK15 => ?_
  refine CW.region ?_
  refine WR.batch 2 [(0, .int .u64 a0), (1, .int .i64 a1), (2, .int .i64 a2), (3, .bool a3), (9, .int .u64 v9), (10, .int .i64 ((v10 : Nat) : Int)), (11, .int .i64 (((v10 : Nat) : Int) - a1)), (12, .bool a3)] (by kernel_rfl) ?_
  refine WR.fin (by kernel_rfl) ?_
  refine go hK15 ?_
  refine CW.seq fun K16 hK16 => ?_
  refine CW.seq fun K17 hK17 => ?_
  refine CW.region ?_
  refine WR.batch 3 [(0, .int .u64 a0), (1, .int .i64 a1), (2, .int .i64 a2), (3, .bool a3), (9, .int .u64 v9), (10, .int .i64 ((v10 : Nat) : Int)), (11, .int .i64 (((v10 : Nat) : Int) - a1)), (12, .bool a3), (24, .bool (decide ((((v10 : Nat) : Int) - a1) ≥ (0 : Int))))] (by kernel_rfl) ?_
  refine WR.batch 4 [(0, .int .u64 a0), (1, .int .i64 a1), (2, .int .i64 a2), (3, .bool a3), (9, .int .u64 v9), (10, .int .i64 ((v10 : Nat) : Int)), (11, .int .i64 (((v10 : Nat) : Int) - a1)), (12, .bool a3), (28, .bool ((decide ((((v10 : Nat) : Int) - a1) ≥ (0 : Int))) && (decide ((((v10 : Nat) : Int) - a1) < a2))))] (by generalize decide ((((v10 : Nat) : Int) - a1) ≥ (0 : Int)) = b; cases b <;> kernel_rfl) ?_
  refine WR.fin (by kernel_rfl) ?_
  refine go hK17 ?_
  refine CW.cond (((decide ((((v10 : Nat) : Int) - a1) ≥ (0 : Int))) && (decide ((((v10 : Nat) : Int) - a1) < a2)))) (by kernel_rfl) (fun ht18 => ?_) (fun ht18 => ?_)
  ·
   have hs19 := ifT ht18 hs11
   replace ht18 : ((((v10 : Nat) : Int) - a1) ≥ (0 : Int)) ∧ ((((v10 : Nat) : Int) - a1) < a2) := ⟨(of_decide_eq_true (bAndT ht18).1), (of_decide_eq_true (bAndT ht18).2)⟩
   refine CW.region ?_
   refine WR.batch 2 [(0, .int .u64 a0), (1, .int .i64 a1), (2, .int .i64 a2), (3, .bool a3), (9, .int .u64 v9), (10, .int .i64 ((v10 : Nat) : Int)), (29, .int .u64 a0), (30, .int .i64 (((v10 : Nat) : Int) - a1))] (by kernel_rfl) ?_
   obtain ⟨x20, hx21⟩ : ∃ x, ref01_bit a0 (((v10 : Nat) : Int) - a1) = x := ⟨_, rfl⟩
   have hs22 := letS hx21 hs19
   refine WR.call (dst := some 31) (by kernel_rfl) (retE (g := (fun r : Bool => (.bool r : Value))) hx21 (ref01_bit_any a0 (((v10 : Nat) : Int) - a1) w5  (by omega) (by omega) (by omega))) ?_
   rintro _ w23 hc24 rfl
   have hz26 := hc24.size
   have hC25 := hC6.pure hc24
   refine WR.batch 1 [(0, .int .u64 a0), (1, .int .i64 a1), (2, .int .i64 a2), (3, .bool a3), (9, .int .u64 v9), (10, .int .i64 ((v10 : Nat) : Int)), (12, .bool x20)] (by kernel_rfl) ?_
   refine WR.fin (by kernel_rfl) ?_
   refine go hK16 ?_
   refine CW.seq fun K27 hK27 => ?_
   refine CW.region ?_
   refine WR.batch 1 [(0, .int .u64 a0), (1, .int .i64 a1), (2, .int .i64 a2), (3, .bool a3), (9, .int .u64 v9), (10, .int .i64 ((v10 : Nat) : Int)), (32, .bool x20)] (by kernel_rfl) ?_
   refine WR.fin (by kernel_rfl) ?_
   refine go hK27 ?_
   refine CW.cond (x20) (by kernel_rfl) (fun ht28 => ?_) (fun ht28 => ?_)
   ·
    have hs29 := ifT ht28 hs22
    refine CW.region ?_
    refine WR.batch 3 [(0, .int .u64 a0), (1, .int .i64 a1), (2, .int .i64 a2), (3, .bool a3), (10, .int .i64 ((v10 : Nat) : Int)), (33, .int .u64 v9), (35, .int .u64 (IntKind.u64.wrap ((v10 : Nat) : Int)))] (by kernel_rfl) ?_
    refine WR.valR (dst := some 36) (v := .int .u64 (sShl .u64 (1 : Int) (IntKind.u64.wrap ((v10 : Nat) : Int)))) (w' := w23) (run_shl (kk := .u64) (k' := .u64) (x := (1 : Int)) (y := (IntKind.u64.wrap ((v10 : Nat) : Int))) (by kernel_rfl) (show IU64 (IntKind.u64.wrap ((v10 : Nat) : Int)) from (wrapU64 _)).1 w23) ?_
    refine WR.batch 2 [(0, .int .u64 a0), (1, .int .i64 a1), (2, .int .i64 a2), (3, .bool a3), (9, .int .u64 (bOr .u64 v9 (sShl .u64 (1 : Int) (IntKind.u64.wrap ((v10 : Nat) : Int))))), (10, .int .i64 ((v10 : Nat) : Int))] (by kernel_rfl) ?_
    refine WR.fin (by kernel_rfl) ?_
    refine go hK12 ?_
    refine CW.region ?_
    refine WR.batch 2 [(0, .int .u64 a0), (1, .int .i64 a1), (2, .int .i64 a2), (3, .bool a3), (9, .int .u64 (bOr .u64 v9 (sShl .u64 (1 : Int) (IntKind.u64.wrap ((v10 : Nat) : Int))))), (17, .int .i64 (IntKind.i64.wrap (((v10 : Nat) : Int) + (1 : Int))))] (by kernel_rfl) ?_
    have hw30 : IntKind.i64.wrap (((v10 : Nat) : Int) + (1 : Int)) = (((v10 : Nat) : Int) + (1 : Int)) := IntWalk.i64_in _ (by omega)
    refine WR.eqF (F' := [(0, .int .u64 a0), (1, .int .i64 a1), (2, .int .i64 a2), (3, .bool a3), (9, .int .u64 (bOr .u64 v9 (sShl .u64 (1 : Int) (IntKind.u64.wrap ((v10 : Nat) : Int))))), (17, .int .i64 (((v10 : Nat) : Int) + (1 : Int)))]) (by rw [hw30]) ?_
    refine WR.batch 1 [(0, .int .u64 a0), (1, .int .i64 a1), (2, .int .i64 a2), (3, .bool a3), (9, .int .u64 (bOr .u64 v9 (sShl .u64 (1 : Int) (IntKind.u64.wrap ((v10 : Nat) : Int))))), (10, .int .i64 (((v10 : Nat) : Int) + (1 : Int)))] (by kernel_rfl) ?_
    refine WR.fin (by kernel_rfl) ?_
    exact fun _ ha => ⟨⟨(bOr .u64 v9 (sShl .u64 (1 : Int) (IntKind.u64.wrap ((v10 : Nat) : Int)))), v10 + 1, fu0 - 1⟩, ⟨hC25, (by omega), (wrapU64 _), (by omega), (by rw [show fu0 - 1 + 1 = fu0 by omega]; exact hs29)⟩, (by dsimp only; omega), ha.keep [0, 1, 2, 3, 9, 10] (by kernel_rfl)⟩
   have hs31 := ifF ht28 hs22
   refine CW.skip ?_
   refine go hK12 ?_
   refine CW.region ?_
   refine WR.batch 2 [(0, .int .u64 a0), (1, .int .i64 a1), (2, .int .i64 a2), (3, .bool a3), (9, .int .u64 v9), (17, .int .i64 (IntKind.i64.wrap (((v10 : Nat) : Int) + (1 : Int))))] (by kernel_rfl) ?_
   have hw32 : IntKind.i64.wrap (((v10 : Nat) : Int) + (1 : Int)) = (((v10 : Nat) : Int) + (1 : Int)) := IntWalk.i64_in _ (by omega)
   refine WR.eqF (F' := [(0, .int .u64 a0), (1, .int .i64 a1), (2, .int .i64 a2), (3, .bool a3), (9, .int .u64 v9), (17, .int .i64 (((v10 : Nat) : Int) + (1 : Int)))]) (by rw [hw32]) ?_
   refine WR.batch 1 [(0, .int .u64 a0), (1, .int .i64 a1), (2, .int .i64 a2), (3, .bool a3), (9, .int .u64 v9), (10, .int .i64 (((v10 : Nat) : Int) + (1 : Int)))] (by kernel_rfl) ?_
   refine WR.fin (by kernel_rfl) ?_
   exact fun _ ha => ⟨⟨v9, v10 + 1, fu0 - 1⟩, ⟨hC25, (by omega), (by omega), (by omega), (by rw [show fu0 - 1 + 1 = fu0 by omega]; exact hs31)⟩, (by dsimp only; omega), ha.keep [0, 1, 2, 3, 9, 10] (by kernel_rfl)⟩
  have hs33 := ifF ht18 hs11
  replace ht18 : (¬ ((((v10 : Nat) : Int) - a1) ≥ (0 : Int))) ∨ (¬ ((((v10 : Nat) : Int) - a1) < a2)) := (orMap (bAndF ht18) (fun h => (of_decide_eq_false h)) (fun h => (of_decide_eq_false h)))
  refine CW.skip ?_
  refine go hK16 ?_
  refine CW.seq fun K34 hK34 => ?_
  refine CW.region ?_
  refine WR.batch 1 [(0, .int .u64 a0), (1, .int .i64 a1), (2, .int .i64 a2), (3, .bool a3), (9, .int .u64 v9), (10, .int .i64 ((v10 : Nat) : Int)), (32, .bool a3)] (by kernel_rfl) ?_
  refine WR.fin (by kernel_rfl) ?_
  refine go hK34 ?_
  refine CW.cond (a3) (by kernel_rfl) (fun ht35 => ?_) (fun ht35 => ?_)
  ·
   have hs36 := ifT ht35 hs33
   refine CW.keep [0, 1, 2, 3, 9, 10] (F' := [(0, .int .u64 a0), (1, .int .i64 a1), (2, .int .i64 a2), (3, .bool a3), (9, .int .u64 v9), (10, .int .i64 ((v10 : Nat) : Int))]) (by kernel_rfl) ?_
   refine CW.eqF (F' := [(0, .int .u64 a0), (1, .int .i64 a1), (2, .int .i64 a2), (3, .bool true), (9, .int .u64 v9), (10, .int .i64 ((v10 : Nat) : Int))]) (by rw [ht35]) ?_
   have hk37 := ht35
   refine CW.region ?_
   refine WR.batch 3 [(0, .int .u64 a0), (1, .int .i64 a1), (2, .int .i64 a2), (3, .bool true), (10, .int .i64 ((v10 : Nat) : Int)), (33, .int .u64 v9), (35, .int .u64 (IntKind.u64.wrap ((v10 : Nat) : Int)))] (by kernel_rfl) ?_
   refine WR.valR (dst := some 36) (v := .int .u64 (sShl .u64 (1 : Int) (IntKind.u64.wrap ((v10 : Nat) : Int)))) (w' := w5) (run_shl (kk := .u64) (k' := .u64) (x := (1 : Int)) (y := (IntKind.u64.wrap ((v10 : Nat) : Int))) (by kernel_rfl) (show IU64 (IntKind.u64.wrap ((v10 : Nat) : Int)) from (wrapU64 _)).1 w5) ?_
   refine WR.batch 2 [(0, .int .u64 a0), (1, .int .i64 a1), (2, .int .i64 a2), (3, .bool true), (9, .int .u64 (bOr .u64 v9 (sShl .u64 (1 : Int) (IntKind.u64.wrap ((v10 : Nat) : Int))))), (10, .int .i64 ((v10 : Nat) : Int))] (by kernel_rfl) ?_
   refine WR.fin (by kernel_rfl) ?_
   refine go hK12 ?_
   refine CW.region ?_
   refine WR.batch 2 [(0, .int .u64 a0), (1, .int .i64 a1), (2, .int .i64 a2), (3, .bool true), (9, .int .u64 (bOr .u64 v9 (sShl .u64 (1 : Int) (IntKind.u64.wrap ((v10 : Nat) : Int))))), (17, .int .i64 (IntKind.i64.wrap (((v10 : Nat) : Int) + (1 : Int))))] (by kernel_rfl) ?_
   have hw38 : IntKind.i64.wrap (((v10 : Nat) : Int) + (1 : Int)) = (((v10 : Nat) : Int) + (1 : Int)) := IntWalk.i64_in _ (by omega)
   refine WR.eqF (F' := [(0, .int .u64 a0), (1, .int .i64 a1), (2, .int .i64 a2), (3, .bool true), (9, .int .u64 (bOr .u64 v9 (sShl .u64 (1 : Int) (IntKind.u64.wrap ((v10 : Nat) : Int))))), (17, .int .i64 (((v10 : Nat) : Int) + (1 : Int)))]) (by rw [hw38]) ?_
   refine WR.batch 1 [(0, .int .u64 a0), (1, .int .i64 a1), (2, .int .i64 a2), (3, .bool true), (9, .int .u64 (bOr .u64 v9 (sShl .u64 (1 : Int) (IntKind.u64.wrap ((v10 : Nat) : Int))))), (10, .int .i64 (((v10 : Nat) : Int) + (1 : Int)))] (by kernel_rfl) ?_
   refine WR.fin (by kernel_rfl) ?_
   exact fun _ ha => ⟨⟨(bOr .u64 v9 (sShl .u64 (1 : Int) (IntKind.u64.wrap ((v10 : Nat) : Int)))), v10 + 1, fu0 - 1⟩, ⟨hC6, (by omega), (wrapU64 _), (by omega), (by rw [show fu0 - 1 + 1 = fu0 by omega]; exact hs36)⟩, (by dsimp only; omega), (ha.cast (show ([(0, .int .u64 a0), (1, .int .i64 a1), (2, .int .i64 a2), (3, .bool true), (9, .int .u64 (bOr .u64 v9 (sShl .u64 (1 : Int) (IntKind.u64.wrap ((v10 : Nat) : Int))))), (10, .int .i64 (((v10 : Nat) : Int) + (1 : Int)))] : PF) = [(0, .int .u64 a0), (1, .int .i64 a1), (2, .int .i64 a2), (3, .bool a3), (9, .int .u64 (bOr .u64 v9 (sShl .u64 (1 : Int) (IntKind.u64.wrap ((v10 : Nat) : Int))))), (10, .int .i64 (((v10 : Nat) : Int) + (1 : Int)))] from by rw [hk37])).keep [0, 1, 2, 3, 9, 10] (by kernel_rfl)⟩
  have hs39 := ifF ht35 hs33
  refine CW.keep [0, 1, 2, 3, 9, 10] (F' := [(0, .int .u64 a0), (1, .int .i64 a1), (2, .int .i64 a2), (3, .bool a3), (9, .int .u64 v9), (10, .int .i64 ((v10 : Nat) : Int))]) (by kernel_rfl) ?_
  refine CW.eqF (F' := [(0, .int .u64 a0), (1, .int .i64 a1), (2, .int .i64 a2), (3, .bool false), (9, .int .u64 v9), (10, .int .i64 ((v10 : Nat) : Int))]) (by rw [ht35]) ?_
  have hk40 := ht35
  refine CW.skip ?_
  refine go hK12 ?_
  refine CW.region ?_
  refine WR.batch 2 [(0, .int .u64 a0), (1, .int .i64 a1), (2, .int .i64 a2), (3, .bool false), (9, .int .u64 v9), (17, .int .i64 (IntKind.i64.wrap (((v10 : Nat) : Int) + (1 : Int))))] (by kernel_rfl) ?_
  have hw41 : IntKind.i64.wrap (((v10 : Nat) : Int) + (1 : Int)) = (((v10 : Nat) : Int) + (1 : Int)) := IntWalk.i64_in _ (by omega)
  refine WR.eqF (F' := [(0, .int .u64 a0), (1, .int .i64 a1), (2, .int .i64 a2), (3, .bool false), (9, .int .u64 v9), (17, .int .i64 (((v10 : Nat) : Int) + (1 : Int)))]) (by rw [hw41]) ?_
  refine WR.batch 1 [(0, .int .u64 a0), (1, .int .i64 a1), (2, .int .i64 a2), (3, .bool false), (9, .int .u64 v9), (10, .int .i64 (((v10 : Nat) : Int) + (1 : Int)))] (by kernel_rfl) ?_
  refine WR.fin (by kernel_rfl) ?_
  exact fun _ ha => ⟨⟨v9, v10 + 1, fu0 - 1⟩, ⟨hC6, (by omega), (by omega), (by omega), (by rw [show fu0 - 1 + 1 = fu0 by omega]; exact hs39)⟩, (by dsimp only; omega), (ha.cast (show ([(0, .int .u64 a0), (1, .int .i64 a1), (2, .int .i64 a2), (3, .bool false), (9, .int .u64 v9), (10, .int .i64 (((v10 : Nat) : Int) + (1 : Int)))] : PF) = [(0, .int .u64 a0), (1, .int .i64 a1), (2, .int .i64 a2), (3, .bool a3), (9, .int .u64 v9), (10, .int .i64 (((v10 : Nat) : Int) + (1 : Int)))] from by rw [hk40])).keep [0, 1, 2, 3, 9, 10] (by kernel_rfl)⟩
 have hs42 := ifF ht10 hs7
 replace ht10 : ¬ (((v10 : Nat) : Int) < a2) := (of_decide_eq_false ht10)
 refine CW.exit ?_
 refine go hK3 ?_
 refine CW.seq fun K43 hK43 => ?_
 refine CW.region ?_
 refine WR.batch 2 [(8, .int .u64 v9)] (by kernel_rfl) ?_
 refine WR.fin (by kernel_rfl) ?_
 refine go hK43 ?_
 refine CW.ret ?_
 exact retV (.int .u64 v9) (by kernel_rfl) (⟨hC6, (congrArg (fun r : Int => (.int .u64 r : Value)) hs42).symm⟩)
end Go.V
