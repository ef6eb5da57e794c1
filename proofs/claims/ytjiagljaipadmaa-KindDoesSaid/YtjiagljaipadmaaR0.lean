import Derived.Test.YtjiagljaipadmaaProg
import Derived.Test.YtjiagljaipadmaaSp
namespace Go.V
open Go.RowKit Go.Proofs
def ref11_most (a0 : Bool)  : Int := (if a0 then (4294967295 : Int) else (18446744073709551615 : Int))

theorem ref11_most_ok (a0 : Bool)    : IU64 (ref11_most a0) := by
 rw [ref11_most.eq_1]
 refine iteR (p := fun r : Int => IU64 r) (fun hi1001 => ?_) (fun hi1001 => ?_)
 ·
  exact (by exact (show IU64 (4294967295 : Int) from (by omega)))
 exact (by exact (show IU64 (18446744073709551615 : Int) from (by omega)))

theorem ref11_most_any (a0 : Bool)   (w : World)    : Calls Try.prog 58 #[.bool a0] w (RetV w (.int .u64 (ref11_most a0))) := by
 have hs := ref11_most.eq_1 a0
 refine calls_of_CW Try.func58 rfl (n := 4) Try.ntmps58 (by kernel_rfl) [0] (F := [(0, .bool a0)]) (by kernel_rfl) ?_
 refine CW.seq fun K1 hK1 => ?_
 refine CW.region ?_
 refine WR.batch 1 [(0, .bool a0)] (by kernel_rfl) ?_
 refine WR.fin (by kernel_rfl) ?_
 refine go hK1 ?_
 refine CW.seq fun K2 hK2 => ?_
 refine CW.seq fun K3 hK3 => ?_
 refine CW.region ?_
 refine WR.batch 1 [(3, .bool a0)] (by kernel_rfl) ?_
 refine WR.fin (by kernel_rfl) ?_
 refine go hK3 ?_
 refine CW.cond (a0) (by kernel_rfl) (fun ht4 => ?_) (fun ht4 => ?_)
 ·
  have hs5 := ifT ht4 hs
  refine CW.seq fun K6 hK6 => ?_
  refine CW.region ?_
  refine WR.batch 1 [(2, .int .u64 4294967295)] (by kernel_rfl) ?_
  refine WR.fin (by kernel_rfl) ?_
  refine go hK6 ?_
  refine CW.ret ?_
  exact retV (.int .u64 4294967295) (by kernel_rfl) (⟨(Chg.refl _ _), (congrArg (fun r : Int => (.int .u64 r : Value)) hs5).symm⟩)
 have hs7 := ifF ht4 hs
 refine CW.skip ?_
 refine go hK2 ?_
 refine CW.seq fun K8 hK8 => ?_
 refine CW.region ?_
 refine WR.batch 1 [(2, .int .u64 18446744073709551615)] (by kernel_rfl) ?_
 refine WR.fin (by kernel_rfl) ?_
 refine go hK8 ?_
 refine CW.ret ?_
 exact retV (.int .u64 18446744073709551615) (by kernel_rfl) (⟨(Chg.refl _ _), (congrArg (fun r : Int => (.int .u64 r : Value)) hs7).symm⟩)

def ref11_All (a0 : Bool)  : TSpan := (letF (ref11_most a0) fun x13 => (⟨(0 : Int), x13⟩ : TSpan))

theorem ref11_All_ok (a0 : Bool)    : IU64 (ref11_All a0).Lo ∧ IU64 (ref11_All a0).Hi := by
 rw [ref11_All.eq_1]
 refine letR (p := fun r : TSpan => IU64 r.Lo ∧ IU64 r.Hi) fun x13 hx14 => ?_
 have hx15 : IU64 x13 := by rw [← hx14]; exact ref11_most_ok a0 
 exact (by exact (show IU64 (0 : Int) ∧ IU64 x13 from ⟨(by omega), (by omega)⟩))

theorem ref11_All_any (a0 : Bool)   (w : World)    : Calls Try.prog 33 #[.bool a0] w (RetV w (TSpan.v (ref11_All a0))) := by
 have hs := ref11_All.eq_1 a0
 refine calls_of_CW Try.func33 rfl (n := 6) Try.ntmps33 (by kernel_rfl) [0] (F := [(0, .bool a0)]) (by kernel_rfl) ?_
 refine CW.seq fun K1 hK1 => ?_
 refine CW.region ?_
 refine WR.alloc (dst := some 2) (e := 25) (by kernel_rfl) #[.int .u64 0, .int .u64 0] (by kernel_rfl) ?_
 intro g2 w3 hN4
 have hf6 : w.heap.size ≤ g2 := hN4.fresh
 have hfr8 := hN4.fresh
 have hc7 := hN4.chg
 have hz10 := hc7.size
 have hC9 := (Chg.refl [] w).pure hc7
 have hb5 := hN4.blk
 have hg11 := hb5.lt
 refine WR.fin (by kernel_rfl) ?_
 refine go hK1 ?_
 refine CW.seq fun K12 hK12 => ?_
 refine CW.region ?_
 refine WR.batch 1 [(2, pt g2 0), (3, .bool a0)] (by kernel_rfl) ?_
 obtain ⟨x13, hx14⟩ : ∃ x, ref11_most a0 = x := ⟨_, rfl⟩
 have hs16 := letS hx14 hs
 have hx15 : IU64 x13 := by rw [← hx14]; exact ref11_most_ok a0 
 refine WR.call (dst := some 4) (by kernel_rfl) (retE (g := (fun r : Int => (.int .u64 r : Value))) hx14 (ref11_most_any a0 w3  )) ?_
 rintro _ w17 hc18 rfl
 have hz20 := hc18.size
 have hC19 := hC9.pure hc18
 refine WR.batch 1 [(2, pt g2 0), (5, .agg #[.int .u64 0, .int .u64 x13])] (by kernel_rfl) ?_
 have hb24 := hb5.pure hc18
 refine WR.store (t := 25) (o := 0) (v := .agg #[.int .u64 0, .int .u64 x13]) hb24 (by kernel_rfl) #[.int .u64 0, .int .u64 x13] (by kernel_rfl) ?_
 intro w21 hb22 hc23
 have hz26 := hc23.size
 have hC25 := hC19.step1 hc23 (by omega)
 refine WR.fin (by kernel_rfl) ?_
 refine go hK12 ?_
 refine CW.ret ?_
 exact retC [.agg #[.int .u64 0, .int .u64 x13]] _ rfl ⟨resCell hb22 rfl (by kernel_rfl), trivial⟩ (⟨hC25, (congrArg TSpan.v hs16).symm⟩)

def ref11_Of (a0 : Int)  : TSpan := (⟨a0, a0⟩ : TSpan)

theorem ref11_Of_ok (a0 : Int)  (_h_a0 : IU64 a0)  : IU64 (ref11_Of a0).Lo ∧ IU64 (ref11_Of a0).Hi := by
 rw [ref11_Of.eq_1]
 exact (by exact (show IU64 a0 ∧ IU64 a0 from ⟨(by omega), (by omega)⟩))

theorem ref11_Of_any (a0 : Int)   (w : World)  (_h_a0 : IU64 a0)  : Calls Try.prog 31 #[.int .u64 a0] w (RetV w (TSpan.v (ref11_Of a0))) := by
 have hs := ref11_Of.eq_1 a0
 refine calls_of_CW Try.func31 rfl (n := 6) Try.ntmps31 (by kernel_rfl) [0] (F := [(0, .int .u64 a0)]) (by kernel_rfl) ?_
 refine CW.seq fun K1 hK1 => ?_
 refine CW.region ?_
 refine WR.alloc (dst := some 2) (e := 25) (by kernel_rfl) #[.int .u64 0, .int .u64 0] (by kernel_rfl) ?_
 intro g2 w3 hN4
 have hf6 : w.heap.size ≤ g2 := hN4.fresh
 have hfr8 := hN4.fresh
 have hc7 := hN4.chg
 have hz10 := hc7.size
 have hC9 := (Chg.refl [] w).pure hc7
 have hb5 := hN4.blk
 have hg11 := hb5.lt
 refine WR.fin (by kernel_rfl) ?_
 refine go hK1 ?_
 refine CW.seq fun K12 hK12 => ?_
 refine CW.region ?_
 refine WR.batch 3 [(2, pt g2 0), (5, .agg #[.int .u64 a0, .int .u64 a0])] (by kernel_rfl) ?_
 refine WR.store (t := 25) (o := 0) (v := .agg #[.int .u64 a0, .int .u64 a0]) hb5 (by kernel_rfl) #[.int .u64 a0, .int .u64 a0] (by kernel_rfl) ?_
 intro w13 hb14 hc15
 have hz17 := hc15.size
 have hC16 := hC9.step1 hc15 (by omega)
 refine WR.fin (by kernel_rfl) ?_
 refine go hK12 ?_
 refine CW.ret ?_
 exact retC [.agg #[.int .u64 a0, .int .u64 a0]] _ rfl ⟨resCell hb14 rfl (by kernel_rfl), trivial⟩ (⟨hC16, (congrArg TSpan.v hs).symm⟩)

def ref11_Right (a0 : TSpan)  : Bool := decide (a0.Lo ≤ a0.Hi)

theorem ref11_Right_any (a0 : TSpan)   (w : World)  (_h_a0 : IU64 a0.Lo ∧ IU64 a0.Hi)  : Calls Try.prog 29 #[.agg #[.int .u64 a0.Lo, .int .u64 a0.Hi]] w (RetV w (.bool (ref11_Right a0))) := by
 have hs := ref11_Right.eq_1 a0
 refine calls_of_CW Try.func29 rfl (n := 8) Try.ntmps29 (by kernel_rfl) [0] (F := [(0, .agg #[.int .u64 a0.Lo, .int .u64 a0.Hi])]) (by kernel_rfl) ?_
 refine CW.seq fun K1 hK1 => ?_
 refine CW.region ?_
 refine WR.box (dst := some 1) (e := 25) (v := .agg #[.int .u64 a0.Lo, .int .u64 a0.Hi]) (by kernel_rfl) #[.int .u64 a0.Lo, .int .u64 a0.Hi] (by kernel_rfl) ?_
 intro g2 w3 hN4
 have hf6 : w.heap.size ≤ g2 := hN4.fresh
 have hfr8 := hN4.fresh
 have hc7 := hN4.chg
 have hz10 := hc7.size
 have hC9 := (Chg.refl [] w).pure hc7
 have hb5 := hN4.blk
 have hg11 := hb5.lt
 refine WR.batch 1 [(1, pt g2 0)] (by kernel_rfl) ?_
 refine WR.fin (by kernel_rfl) ?_
 refine go hK1 ?_
 refine CW.seq fun K12 hK12 => ?_
 refine CW.region ?_
 refine WR.batch 1 [(1, pt g2 0), (3, pt g2 0)] (by kernel_rfl) ?_
 refine WR.load (dst := some 4) (t := 23) (o := 0) hb5 (by kernel_rfl) (.int .u64 a0.Lo) (by kernel_rfl) ?_
 refine WR.batch 1 [(4, .int .u64 a0.Lo), (5, pt g2 1)] (by kernel_rfl) ?_
 refine WR.load (dst := some 6) (t := 23) (o := 1) hb5 (by kernel_rfl) (.int .u64 a0.Hi) (by kernel_rfl) ?_
 refine WR.batch 2 [(2, .bool (decide (a0.Lo ≤ a0.Hi)))] (by kernel_rfl) ?_
 refine WR.fin (by kernel_rfl) ?_
 refine go hK12 ?_
 refine CW.ret ?_
 exact retV (.bool (decide (a0.Lo ≤ a0.Hi))) (by kernel_rfl) (⟨hC9, (congrArg (fun r : Bool => (.bool r : Value)) hs).symm⟩)

def ref11_Has (a0 : TSpan) (a1 : Int)  : Bool := ((decide (a1 ≥ a0.Lo)) && (decide (a1 ≤ a0.Hi)))

theorem ref11_Has_any (a0 : TSpan) (a1 : Int)   (w : World)  (_h_a0 : IU64 a0.Lo ∧ IU64 a0.Hi) (_h_a1 : IU64 a1)  : Calls Try.prog 27 #[.agg #[.int .u64 a0.Lo, .int .u64 a0.Hi], .int .u64 a1] w (RetV w (.bool (ref11_Has a0 a1))) := by
 have hs := ref11_Has.eq_1 a0 a1
 refine calls_of_CW Try.func27 rfl (n := 15) Try.ntmps27 (by kernel_rfl) [0, 1] (F := [(0, .agg #[.int .u64 a0.Lo, .int .u64 a0.Hi]), (1, .int .u64 a1)]) (by kernel_rfl) ?_
 refine CW.seq fun K1 hK1 => ?_
 refine CW.region ?_
 refine WR.box (dst := some 2) (e := 25) (v := .agg #[.int .u64 a0.Lo, .int .u64 a0.Hi]) (by kernel_rfl) #[.int .u64 a0.Lo, .int .u64 a0.Hi] (by kernel_rfl) ?_
 intro g2 w3 hN4
 have hf6 : w.heap.size ≤ g2 := hN4.fresh
 have hfr8 := hN4.fresh
 have hc7 := hN4.chg
 have hz10 := hc7.size
 have hC9 := (Chg.refl [] w).pure hc7
 have hb5 := hN4.blk
 have hg11 := hb5.lt
 refine WR.batch 1 [(1, .int .u64 a1), (2, pt g2 0)] (by kernel_rfl) ?_
 refine WR.fin (by kernel_rfl) ?_
 refine go hK1 ?_
 refine CW.seq fun K12 hK12 => ?_
 refine CW.region ?_
 refine WR.batch 2 [(1, .int .u64 a1), (2, pt g2 0), (5, .int .u64 a1), (6, pt g2 0)] (by kernel_rfl) ?_
 refine WR.load (dst := some 7) (t := 23) (o := 0) hb5 (by kernel_rfl) (.int .u64 a0.Lo) (by kernel_rfl) ?_
 refine WR.batch 2 [(1, .int .u64 a1), (2, pt g2 0), (9, .bool (decide (a1 ≥ a0.Lo)))] (by kernel_rfl) ?_
 refine WR.mergeW 10 [(14, .bool ((decide (a1 ≥ a0.Lo)) && (decide (a1 ≤ a0.Hi))))] (fun w' => Chg [] w3 w') (fun Q' => ?_) ?_
 ·
  cases hg13 : decide (a1 ≥ a0.Lo)
  ·
   have hk15 := hg13
   replace hg13 : ¬ (a1 ≥ a0.Lo) := (of_decide_eq_false hg13)
   intro hM14
   refine WR.batch 5 [(14, .bool false)] (by kernel_rfl) ?_
   exact WR.keep [14] (by kernel_rfl) (hM14 _ (Chg.refl [] w3))
  ·
   have hk16 := hg13
   replace hg13 : a1 ≥ a0.Lo := (of_decide_eq_true hg13)
   intro hM14
   refine WR.batch 2 [(9, .bool true), (10, .int .u64 a1), (11, pt g2 1)] (by kernel_rfl) ?_
   refine WR.load (dst := some 12) (t := 23) (o := 1) hb5 (by kernel_rfl) (.int .u64 a0.Hi) (by kernel_rfl) ?_
   refine WR.batch 2 [(14, .bool (decide (a1 ≤ a0.Hi)))] (by kernel_rfl) ?_
   exact WR.keep [14] (by kernel_rfl) (hM14 _ (Chg.refl [] w3))
 intro w17 hc18
 have hz20 := hc18.size
 have hC19 := hC9.pure hc18
 refine WR.batch 1 [(4, .bool ((decide (a1 ≥ a0.Lo)) && (decide (a1 ≤ a0.Hi))))] (by kernel_rfl) ?_
 refine WR.fin (by kernel_rfl) ?_
 refine go hK12 ?_
 refine CW.ret ?_
 exact retV (.bool ((decide (a1 ≥ a0.Lo)) && (decide (a1 ≤ a0.Hi)))) (by kernel_rfl) (⟨hC19, (congrArg (fun r : Bool => (.bool r : Value)) hs).symm⟩)

def ref11_Within (a0 : TSpan) (a1 : TSpan)  : Bool := ((decide (a0.Lo ≥ a1.Lo)) && (decide (a0.Hi ≤ a1.Hi)))

theorem ref11_Within_any (a0 : TSpan) (a1 : TSpan)   (w : World)  (_h_a0 : IU64 a0.Lo ∧ IU64 a0.Hi) (_h_a1 : IU64 a1.Lo ∧ IU64 a1.Hi)  : Calls Try.prog 25 #[.agg #[.int .u64 a0.Lo, .int .u64 a0.Hi], .agg #[.int .u64 a1.Lo, .int .u64 a1.Hi]] w (RetV w (.bool (ref11_Within a0 a1))) := by
 have hs := ref11_Within.eq_1 a0 a1
 refine calls_of_CW Try.func25 rfl (n := 17) Try.ntmps25 (by kernel_rfl) [0, 1] (F := [(0, .agg #[.int .u64 a0.Lo, .int .u64 a0.Hi]), (1, .agg #[.int .u64 a1.Lo, .int .u64 a1.Hi])]) (by kernel_rfl) ?_
 refine CW.seq fun K1 hK1 => ?_
 refine CW.region ?_
 refine WR.box (dst := some 2) (e := 25) (v := .agg #[.int .u64 a0.Lo, .int .u64 a0.Hi]) (by kernel_rfl) #[.int .u64 a0.Lo, .int .u64 a0.Hi] (by kernel_rfl) ?_
 intro g2 w3 hN4
 have hf6 : w.heap.size ≤ g2 := hN4.fresh
 have hfr8 := hN4.fresh
 have hc7 := hN4.chg
 have hz10 := hc7.size
 have hC9 := (Chg.refl [] w).pure hc7
 have hb5 := hN4.blk
 have hg11 := hb5.lt
 refine WR.box (dst := some 3) (e := 25) (v := .agg #[.int .u64 a1.Lo, .int .u64 a1.Hi]) (by kernel_rfl) #[.int .u64 a1.Lo, .int .u64 a1.Hi] (by kernel_rfl) ?_
 intro g12 w13 hN14
 have hf16 : w.heap.size ≤ g12 := Nat.le_trans hC9.size hN14.fresh
 have hfr18 := hN14.fresh
 have hc17 := hN14.chg
 have hz20 := hc17.size
 have hC19 := hC9.pure hc17
 have hb15 := hN14.blk
 have hg21 := hb15.lt
 refine WR.batch 1 [(2, pt g2 0), (3, pt g12 0)] (by kernel_rfl) ?_
 refine WR.fin (by kernel_rfl) ?_
 refine go hK1 ?_
 refine CW.seq fun K22 hK22 => ?_
 refine CW.region ?_
 refine WR.batch 1 [(2, pt g2 0), (3, pt g12 0), (5, pt g2 0)] (by kernel_rfl) ?_
 have hb23 := hb5.pure hc17
 refine WR.load (dst := some 6) (t := 23) (o := 0) hb23 (by kernel_rfl) (.int .u64 a0.Lo) (by kernel_rfl) ?_
 refine WR.batch 1 [(2, pt g2 0), (3, pt g12 0), (6, .int .u64 a0.Lo), (7, pt g12 0)] (by kernel_rfl) ?_
 refine WR.load (dst := some 8) (t := 23) (o := 0) hb15 (by kernel_rfl) (.int .u64 a1.Lo) (by kernel_rfl) ?_
 refine WR.batch 2 [(2, pt g2 0), (3, pt g12 0), (10, .bool (decide (a0.Lo ≥ a1.Lo)))] (by kernel_rfl) ?_
 refine WR.mergeW 12 [(16, .bool ((decide (a0.Lo ≥ a1.Lo)) && (decide (a0.Hi ≤ a1.Hi))))] (fun w' => Chg [] w13 w') (fun Q' => ?_) ?_
 ·
  cases hg24 : decide (a0.Lo ≥ a1.Lo)
  ·
   have hk26 := hg24
   replace hg24 : ¬ (a0.Lo ≥ a1.Lo) := (of_decide_eq_false hg24)
   intro hM25
   refine WR.batch 6 [(16, .bool false)] (by kernel_rfl) ?_
   exact WR.keep [16] (by kernel_rfl) (hM25 _ (Chg.refl [] w13))
  ·
   have hk27 := hg24
   replace hg24 : a0.Lo ≥ a1.Lo := (of_decide_eq_true hg24)
   intro hM25
   refine WR.batch 1 [(3, pt g12 0), (10, .bool true), (11, pt g2 1)] (by kernel_rfl) ?_
   refine WR.load (dst := some 12) (t := 23) (o := 1) hb23 (by kernel_rfl) (.int .u64 a0.Hi) (by kernel_rfl) ?_
   refine WR.batch 1 [(10, .bool true), (12, .int .u64 a0.Hi), (13, pt g12 1)] (by kernel_rfl) ?_
   refine WR.load (dst := some 14) (t := 23) (o := 1) hb15 (by kernel_rfl) (.int .u64 a1.Hi) (by kernel_rfl) ?_
   refine WR.batch 2 [(16, .bool (decide (a0.Hi ≤ a1.Hi)))] (by kernel_rfl) ?_
   exact WR.keep [16] (by kernel_rfl) (hM25 _ (Chg.refl [] w13))
 intro w28 hc29
 have hz31 := hc29.size
 have hC30 := hC19.pure hc29
 refine WR.batch 1 [(4, .bool ((decide (a0.Lo ≥ a1.Lo)) && (decide (a0.Hi ≤ a1.Hi))))] (by kernel_rfl) ?_
 refine WR.fin (by kernel_rfl) ?_
 refine go hK22 ?_
 refine CW.ret ?_
 exact retV (.bool ((decide (a0.Lo ≥ a1.Lo)) && (decide (a0.Hi ≤ a1.Hi)))) (by kernel_rfl) (⟨hC30, (congrArg (fun r : Bool => (.bool r : Value)) hs).symm⟩)

def ref11_Join (a0 : TSpan) (a1 : TSpan)  : TSpan := (⟨(gMin a0.Lo a1.Lo), (gMax a0.Hi a1.Hi)⟩ : TSpan)

theorem ref11_Join_ok (a0 : TSpan) (a1 : TSpan)  (_h_a0 : IU64 a0.Lo ∧ IU64 a0.Hi) (_h_a1 : IU64 a1.Lo ∧ IU64 a1.Hi)  : IU64 (ref11_Join a0 a1).Lo ∧ IU64 (ref11_Join a0 a1).Hi := by
 rw [ref11_Join.eq_1]
 exact (by exact (show IU64 (gMin a0.Lo a1.Lo) ∧ IU64 (gMax a0.Hi a1.Hi) from ⟨(gMin_rng (by omega) (by omega)), (gMax_rng (by omega) (by omega))⟩))

theorem ref11_Join_any (a0 : TSpan) (a1 : TSpan)   (w : World)  (_h_a0 : IU64 a0.Lo ∧ IU64 a0.Hi) (_h_a1 : IU64 a1.Lo ∧ IU64 a1.Hi)  : Calls Try.prog 24 #[.agg #[.int .u64 a0.Lo, .int .u64 a0.Hi], .agg #[.int .u64 a1.Lo, .int .u64 a1.Hi]] w (RetV w (TSpan.v (ref11_Join a0 a1))) := by
 have hs := ref11_Join.eq_1 a0 a1
 refine calls_of_CW Try.func24 rfl (n := 16) Try.ntmps24 (by kernel_rfl) [0, 1] (F := [(0, .agg #[.int .u64 a0.Lo, .int .u64 a0.Hi]), (1, .agg #[.int .u64 a1.Lo, .int .u64 a1.Hi])]) (by kernel_rfl) ?_
 refine CW.seq fun K1 hK1 => ?_
 refine CW.region ?_
 refine WR.box (dst := some 2) (e := 25) (v := .agg #[.int .u64 a0.Lo, .int .u64 a0.Hi]) (by kernel_rfl) #[.int .u64 a0.Lo, .int .u64 a0.Hi] (by kernel_rfl) ?_
 intro g2 w3 hN4
 have hf6 : w.heap.size ≤ g2 := hN4.fresh
 have hfr8 := hN4.fresh
 have hc7 := hN4.chg
 have hz10 := hc7.size
 have hC9 := (Chg.refl [] w).pure hc7
 have hb5 := hN4.blk
 have hg11 := hb5.lt
 refine WR.box (dst := some 3) (e := 25) (v := .agg #[.int .u64 a1.Lo, .int .u64 a1.Hi]) (by kernel_rfl) #[.int .u64 a1.Lo, .int .u64 a1.Hi] (by kernel_rfl) ?_
 intro g12 w13 hN14
 have hf16 : w.heap.size ≤ g12 := Nat.le_trans hC9.size hN14.fresh
 have hfr18 := hN14.fresh
 have hc17 := hN14.chg
 have hz20 := hc17.size
 have hC19 := hC9.pure hc17
 have hb15 := hN14.blk
 have hg21 := hb15.lt
 refine WR.alloc (dst := some 4) (e := 25) (by kernel_rfl) #[.int .u64 0, .int .u64 0] (by kernel_rfl) ?_
 intro g22 w23 hN24
 have hf26 : w.heap.size ≤ g22 := Nat.le_trans hC19.size hN24.fresh
 have hfr28 := hN24.fresh
 have hc27 := hN24.chg
 have hz30 := hc27.size
 have hC29 := hC19.pure hc27
 have hb25 := hN24.blk
 have hg31 := hb25.lt
 refine WR.fin (by kernel_rfl) ?_
 refine go hK1 ?_
 refine CW.seq fun K32 hK32 => ?_
 refine CW.region ?_
 refine WR.batch 1 [(2, pt g2 0), (3, pt g12 0), (4, pt g22 0), (5, pt g2 0)] (by kernel_rfl) ?_
 have hb33 := (hb5.pure hc17).pure hc27
 refine WR.load (dst := some 6) (t := 23) (o := 0) hb33 (by kernel_rfl) (.int .u64 a0.Lo) (by kernel_rfl) ?_
 refine WR.batch 1 [(2, pt g2 0), (3, pt g12 0), (4, pt g22 0), (6, .int .u64 a0.Lo), (7, pt g12 0)] (by kernel_rfl) ?_
 have hb34 := hb15.pure hc27
 refine WR.load (dst := some 8) (t := 23) (o := 0) hb34 (by kernel_rfl) (.int .u64 a1.Lo) (by kernel_rfl) ?_
 refine WR.batch 2 [(3, pt g12 0), (4, pt g22 0), (9, .int .u64 (gMin a0.Lo a1.Lo)), (10, pt g2 1)] (by kernel_rfl) ?_
 refine WR.load (dst := some 11) (t := 23) (o := 1) hb33 (by kernel_rfl) (.int .u64 a0.Hi) (by kernel_rfl) ?_
 refine WR.batch 1 [(4, pt g22 0), (9, .int .u64 (gMin a0.Lo a1.Lo)), (11, .int .u64 a0.Hi), (12, pt g12 1)] (by kernel_rfl) ?_
 refine WR.load (dst := some 13) (t := 23) (o := 1) hb34 (by kernel_rfl) (.int .u64 a1.Hi) (by kernel_rfl) ?_
 refine WR.batch 2 [(4, pt g22 0), (15, .agg #[.int .u64 (gMin a0.Lo a1.Lo), .int .u64 (gMax a0.Hi a1.Hi)])] (by kernel_rfl) ?_
 refine WR.store (t := 25) (o := 0) (v := .agg #[.int .u64 (gMin a0.Lo a1.Lo), .int .u64 (gMax a0.Hi a1.Hi)]) hb25 (by kernel_rfl) #[.int .u64 (gMin a0.Lo a1.Lo), .int .u64 (gMax a0.Hi a1.Hi)] (by kernel_rfl) ?_
 intro w35 hb36 hc37
 have hz39 := hc37.size
 have hC38 := hC29.step1 hc37 (by omega)
 refine WR.fin (by kernel_rfl) ?_
 refine go hK32 ?_
 refine CW.ret ?_
 exact retC [.agg #[.int .u64 (gMin a0.Lo a1.Lo), .int .u64 (gMax a0.Hi a1.Hi)]] _ rfl ⟨resCell hb36 rfl (by kernel_rfl), trivial⟩ (⟨hC38, (congrArg TSpan.v hs).symm⟩)

def ref11_Meet (a0 : TSpan) (a1 : TSpan)  : (TSpan × Bool) := (letF (ref11_Right (⟨(gMax a0.Lo a1.Lo), (gMin a0.Hi a1.Hi)⟩ : TSpan)) fun x52 => (if (!x52) then ((⟨(0 : Int), (0 : Int)⟩ : TSpan), false) else ((⟨(gMax a0.Lo a1.Lo), (gMin a0.Hi a1.Hi)⟩ : TSpan), true)))

theorem ref11_Meet_ok (a0 : TSpan) (a1 : TSpan)  (_h_a0 : IU64 a0.Lo ∧ IU64 a0.Hi) (_h_a1 : IU64 a1.Lo ∧ IU64 a1.Hi)  : IU64 (ref11_Meet a0 a1).1.Lo ∧ IU64 (ref11_Meet a0 a1).1.Hi := by
 rw [ref11_Meet.eq_1]
 refine letR (p := fun r : (TSpan × Bool) => IU64 r.1.Lo ∧ IU64 r.1.Hi) fun x52 _ => ?_
 refine iteR (p := fun r : (TSpan × Bool) => IU64 r.1.Lo ∧ IU64 r.1.Hi) (fun hi1001 => ?_) (fun hi1001 => ?_)
 ·
  replace hi1001 : x52 = false := (bNotT hi1001)
  exact (by exact (show IU64 (0 : Int) ∧ IU64 (0 : Int) from ⟨(by omega), (by omega)⟩))
 replace hi1001 : x52 = true := (bNotF hi1001)
 exact (by exact (show IU64 (gMax a0.Lo a1.Lo) ∧ IU64 (gMin a0.Hi a1.Hi) from ⟨(gMax_rng (by omega) (by omega)), (gMin_rng (by omega) (by omega))⟩))

theorem ref11_Meet_any (a0 : TSpan) (a1 : TSpan)   (w : World)  (_h_a0 : IU64 a0.Lo ∧ IU64 a0.Hi) (_h_a1 : IU64 a1.Lo ∧ IU64 a1.Hi)  : Calls Try.prog 22 #[.agg #[.int .u64 a0.Lo, .int .u64 a0.Hi], .agg #[.int .u64 a1.Lo, .int .u64 a1.Hi]] w (RetV w (.tuple #[TSpan.v (ref11_Meet a0 a1).1, .bool (ref11_Meet a0 a1).2])) := by
 have hs := ref11_Meet.eq_1 a0 a1
 refine calls_of_CW Try.func22 rfl (n := 23) Try.ntmps22 (by kernel_rfl) [0, 1] (F := [(0, .agg #[.int .u64 a0.Lo, .int .u64 a0.Hi]), (1, .agg #[.int .u64 a1.Lo, .int .u64 a1.Hi])]) (by kernel_rfl) ?_
 refine CW.seq fun K1 hK1 => ?_
 refine CW.region ?_
 refine WR.box (dst := some 2) (e := 25) (v := .agg #[.int .u64 a0.Lo, .int .u64 a0.Hi]) (by kernel_rfl) #[.int .u64 a0.Lo, .int .u64 a0.Hi] (by kernel_rfl) ?_
 intro g2 w3 hN4
 have hf6 : w.heap.size ≤ g2 := hN4.fresh
 have hfr8 := hN4.fresh
 have hc7 := hN4.chg
 have hz10 := hc7.size
 have hC9 := (Chg.refl [] w).pure hc7
 have hb5 := hN4.blk
 have hg11 := hb5.lt
 refine WR.box (dst := some 3) (e := 25) (v := .agg #[.int .u64 a1.Lo, .int .u64 a1.Hi]) (by kernel_rfl) #[.int .u64 a1.Lo, .int .u64 a1.Hi] (by kernel_rfl) ?_
 intro g12 w13 hN14
 have hf16 : w.heap.size ≤ g12 := Nat.le_trans hC9.size hN14.fresh
 have hfr18 := hN14.fresh
 have hc17 := hN14.chg
 have hz20 := hc17.size
 have hC19 := hC9.pure hc17
 have hb15 := hN14.blk
 have hg21 := hb15.lt
 refine WR.alloc (dst := some 4) (e := 25) (by kernel_rfl) #[.int .u64 0, .int .u64 0] (by kernel_rfl) ?_
 intro g22 w23 hN24
 have hf26 : w.heap.size ≤ g22 := Nat.le_trans hC19.size hN24.fresh
 have hfr28 := hN24.fresh
 have hc27 := hN24.chg
 have hz30 := hc27.size
 have hC29 := hC19.pure hc27
 have hb25 := hN24.blk
 have hg31 := hb25.lt
 refine WR.batch 1 [(2, pt g2 0), (3, pt g12 0), (4, pt g22 0)] (by kernel_rfl) ?_
 refine WR.fin (by kernel_rfl) ?_
 refine go hK1 ?_
 refine CW.seq fun K32 hK32 => ?_
 refine CW.region ?_
 refine WR.batch 1 [(2, pt g2 0), (3, pt g12 0), (4, pt g22 0), (7, pt g2 0)] (by kernel_rfl) ?_
 have hb33 := (hb5.pure hc17).pure hc27
 refine WR.load (dst := some 8) (t := 23) (o := 0) hb33 (by kernel_rfl) (.int .u64 a0.Lo) (by kernel_rfl) ?_
 refine WR.batch 1 [(2, pt g2 0), (3, pt g12 0), (4, pt g22 0), (8, .int .u64 a0.Lo), (9, pt g12 0)] (by kernel_rfl) ?_
 have hb34 := hb15.pure hc27
 refine WR.load (dst := some 10) (t := 23) (o := 0) hb34 (by kernel_rfl) (.int .u64 a1.Lo) (by kernel_rfl) ?_
 refine WR.batch 2 [(3, pt g12 0), (4, pt g22 0), (11, .int .u64 (gMax a0.Lo a1.Lo)), (12, pt g2 1)] (by kernel_rfl) ?_
 refine WR.load (dst := some 13) (t := 23) (o := 1) hb33 (by kernel_rfl) (.int .u64 a0.Hi) (by kernel_rfl) ?_
 refine WR.batch 1 [(4, pt g22 0), (11, .int .u64 (gMax a0.Lo a1.Lo)), (13, .int .u64 a0.Hi), (14, pt g12 1)] (by kernel_rfl) ?_
 refine WR.load (dst := some 15) (t := 23) (o := 1) hb34 (by kernel_rfl) (.int .u64 a1.Hi) (by kernel_rfl) ?_
 refine WR.batch 2 [(4, pt g22 0), (17, .agg #[.int .u64 (gMax a0.Lo a1.Lo), .int .u64 (gMin a0.Hi a1.Hi)])] (by kernel_rfl) ?_
 refine WR.alloc (dst := some 6) (e := 25) (by kernel_rfl) #[.int .u64 0, .int .u64 0] (by kernel_rfl) ?_
 intro g35 w36 hN37
 have hf39 : w.heap.size ≤ g35 := Nat.le_trans hC29.size hN37.fresh
 have hfr41 := hN37.fresh
 have hc40 := hN37.chg
 have hz43 := hc40.size
 have hC42 := hC29.pure hc40
 have hb38 := hN37.blk
 have hg44 := hb38.lt
 refine WR.store (t := 25) (o := 0) (v := .agg #[.int .u64 (gMax a0.Lo a1.Lo), .int .u64 (gMin a0.Hi a1.Hi)]) hb38 (by kernel_rfl) #[.int .u64 (gMax a0.Lo a1.Lo), .int .u64 (gMin a0.Hi a1.Hi)] (by kernel_rfl) ?_
 intro w45 hb46 hc47
 have hz49 := hc47.size
 have hC48 := hC42.step1 hc47 (by omega)
 refine WR.fin (by kernel_rfl) ?_
 refine go hK32 ?_
 refine CW.seq fun K50 hK50 => ?_
 refine CW.seq fun K51 hK51 => ?_
 refine CW.region ?_
 refine WR.load (dst := some 18) (t := 25) (o := 0) hb46 (by kernel_rfl) (.agg #[.int .u64 (gMax a0.Lo a1.Lo), .int .u64 (gMin a0.Hi a1.Hi)]) (by kernel_rfl) ?_
 obtain ⟨x52, hx53⟩ : ∃ x, ref11_Right (⟨(gMax a0.Lo a1.Lo), (gMin a0.Hi a1.Hi)⟩ : TSpan) = x := ⟨_, rfl⟩
 have hs54 := letS hx53 hs
 refine WR.call (dst := some 19) (by kernel_rfl) (retE (g := (fun r : Bool => (.bool r : Value))) hx53 (ref11_Right_any (⟨(gMax a0.Lo a1.Lo), (gMin a0.Hi a1.Hi)⟩ : TSpan) w45  (show IU64 (gMax a0.Lo a1.Lo) ∧ IU64 (gMin a0.Hi a1.Hi) from ⟨(gMax_rng (by omega) (by omega)), (gMin_rng (by omega) (by omega))⟩) )) ?_
 rintro _ w55 hc56 rfl
 have hz58 := hc56.size
 have hC57 := hC48.pure hc56
 refine WR.batch 1 [(4, pt g22 0), (6, pt g35 0), (20, .bool (!x52))] (by kernel_rfl) ?_
 refine WR.fin (by kernel_rfl) ?_
 refine go hK51 ?_
 refine CW.cond ((!x52)) (by kernel_rfl) (fun ht59 => ?_) (fun ht59 => ?_)
 ·
  have hs60 := ifT ht59 hs54
  replace ht59 : x52 = false := (bNotT ht59)
  refine CW.seq fun K61 hK61 => ?_
  refine CW.region ?_
  refine WR.batch 1 [(4, pt g22 0), (21, .agg #[.int .u64 0, .int .u64 0])] (by kernel_rfl) ?_
  have hb65 := ((hb25.pure hc40).chg1 hc47 (by omega)).pure hc56
  refine WR.store (t := 25) (o := 0) (v := .agg #[.int .u64 0, .int .u64 0]) hb65 (by kernel_rfl) #[.int .u64 0, .int .u64 0] (by kernel_rfl) ?_
  intro w62 hb63 hc64
  have hz67 := hc64.size
  have hC66 := hC57.step1 hc64 (by omega)
  refine WR.batch 1 [(4, pt g22 0), (5, .bool false)] (by kernel_rfl) ?_
  refine WR.fin (by kernel_rfl) ?_
  refine go hK61 ?_
  refine CW.ret ?_
  exact retC [.agg #[.int .u64 0, .int .u64 0], .bool false] _ rfl ⟨resCell hb63 rfl (by kernel_rfl), rfl, trivial⟩ (⟨hC66, (congrArg (fun r : (TSpan × Bool) => (.tuple #[TSpan.v r.1, .bool r.2] : Value)) hs60).symm⟩)
 have hs68 := ifF ht59 hs54
 replace ht59 : x52 = true := (bNotF ht59)
 refine CW.skip ?_
 refine go hK50 ?_
 refine CW.seq fun K69 hK69 => ?_
 refine CW.region ?_
 have hb70 := hb46.pure hc56
 refine WR.load (dst := some 22) (t := 25) (o := 0) hb70 (by kernel_rfl) (.agg #[.int .u64 (gMax a0.Lo a1.Lo), .int .u64 (gMin a0.Hi a1.Hi)]) (by kernel_rfl) ?_
 have hb74 := ((hb25.pure hc40).chg1 hc47 (by omega)).pure hc56
 refine WR.store (t := 25) (o := 0) (v := .agg #[.int .u64 (gMax a0.Lo a1.Lo), .int .u64 (gMin a0.Hi a1.Hi)]) hb74 (by kernel_rfl) #[.int .u64 (gMax a0.Lo a1.Lo), .int .u64 (gMin a0.Hi a1.Hi)] (by kernel_rfl) ?_
 intro w71 hb72 hc73
 have hz76 := hc73.size
 have hC75 := hC57.step1 hc73 (by omega)
 refine WR.batch 1 [(4, pt g22 0), (5, .bool true)] (by kernel_rfl) ?_
 refine WR.fin (by kernel_rfl) ?_
 refine go hK69 ?_
 refine CW.ret ?_
 exact retC [.agg #[.int .u64 (gMax a0.Lo a1.Lo), .int .u64 (gMin a0.Hi a1.Hi)], .bool true] _ rfl ⟨resCell hb72 rfl (by kernel_rfl), rfl, trivial⟩ (⟨hC75, (congrArg (fun r : (TSpan × Bool) => (.tuple #[TSpan.v r.1, .bool r.2] : Value)) hs68).symm⟩)
end Go.V
