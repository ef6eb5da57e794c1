import Derived.Test.YtjiagljaipadmaaProg
import Derived.Test.YtjiagljaipadmaaMp
namespace Go.V
open Go.RowKit Go.Proofs
structure TSpan where
  Lo : Int
  Hi : Int
deriving Inhabited, DecidableEq
abbrev TSpan.v (r : TSpan) : Value := .agg #[.int .u64 r.Lo, .int .u64 r.Hi]

def span_Of (a0 : Int)  : TSpan := (⟨a0, a0⟩ : TSpan)

theorem span_Of_ok (a0 : Int)  (_h_a0 : IU64 a0)  : IU64 (span_Of a0).Lo ∧ IU64 (span_Of a0).Hi := by
 rw [span_Of.eq_1]
 exact (by exact (show IU64 a0 ∧ IU64 a0 from ⟨(by omega), (by omega)⟩))

theorem span_Of_any (a0 : Int)   (w : World)  (_h_a0 : IU64 a0)  : Calls Try.prog 30 #[.int .u64 a0] w (RetV w (TSpan.v (span_Of a0))) := by
 have hs := span_Of.eq_1 a0
 refine calls_of_CW Try.func30 rfl (n := 6) Try.ntmps30 (by kernel_rfl) [0] (F := [(0, .int .u64 a0)]) (by kernel_rfl) ?_
 refine CW.seq fun K1 hK1 => ?_
 refine CW.region ?_
 refine WR.alloc (dst := some 2) (e := 25) (by kernel_rfl) #[.int .u64 0, .int .u64 0] (by kernel_rfl) ?_
 intro g2 w3 hN4
 have hf6 : w.heap.size ≤ g2 := hN4.fresh
 have hfr8 := hN4.fresh
 have hc7 := hN4.chg
 have hz10 := hc7.size
 have hC9 := (Chg.refl [] w).pure hc7
 have hb5 := hN4.blk
 have hg11 := hb5.lt
 refine WR.fin (by kernel_rfl) ?_
 refine go hK1 ?_
 refine CW.seq fun K12 hK12 => ?_
 refine CW.region ?_
 refine WR.batch 3 [(2, pt g2 0), (5, .agg #[.int .u64 a0, .int .u64 a0])] (by kernel_rfl) ?_
 refine WR.store (t := 25) (o := 0) (v := .agg #[.int .u64 a0, .int .u64 a0]) hb5 (by kernel_rfl) #[.int .u64 a0, .int .u64 a0] (by kernel_rfl) ?_
 intro w13 hb14 hc15
 have hz17 := hc15.size
 have hC16 := hC9.step1 hc15 (by omega)
 refine WR.fin (by kernel_rfl) ?_
 refine go hK12 ?_
 refine CW.ret ?_
 exact retC [.agg #[.int .u64 a0, .int .u64 a0]] _ rfl ⟨resCell hb14 rfl (by kernel_rfl), trivial⟩ (⟨hC16, (congrArg TSpan.v hs).symm⟩)

def span_All (a0 : Bool)  : TSpan := (if a0 then (⟨(0 : Int), (4294967295 : Int)⟩ : TSpan) else (⟨(0 : Int), (18446744073709551615 : Int)⟩ : TSpan))

theorem span_All_ok (a0 : Bool)    : IU64 (span_All a0).Lo ∧ IU64 (span_All a0).Hi := by
 rw [span_All.eq_1]
 refine iteR (p := fun r : TSpan => IU64 r.Lo ∧ IU64 r.Hi) (fun hi1001 => ?_) (fun hi1001 => ?_)
 ·
  exact (by exact (show IU64 (0 : Int) ∧ IU64 (4294967295 : Int) from ⟨(by omega), (by omega)⟩))
 exact (by exact (show IU64 (0 : Int) ∧ IU64 (18446744073709551615 : Int) from ⟨(by omega), (by omega)⟩))

theorem span_All_any (a0 : Bool)   (w : World)    : Calls Try.prog 32 #[.bool a0] w (RetV w (TSpan.v (span_All a0))) := by
 have hs := span_All.eq_1 a0
 refine calls_of_CW Try.func32 rfl (n := 6) Try.ntmps32 (by kernel_rfl) [0] (F := [(0, .bool a0)]) (by kernel_rfl) ?_
 refine CW.seq fun K1 hK1 => ?_
 refine CW.region ?_
 refine WR.alloc (dst := some 2) (e := 25) (by kernel_rfl) #[.int .u64 0, .int .u64 0] (by kernel_rfl) ?_
 intro g2 w3 hN4
 have hf6 : w.heap.size ≤ g2 := hN4.fresh
 have hfr8 := hN4.fresh
 have hc7 := hN4.chg
 have hz10 := hc7.size
 have hC9 := (Chg.refl [] w).pure hc7
 have hb5 := hN4.blk
 have hg11 := hb5.lt
 refine WR.fin (by kernel_rfl) ?_
 refine go hK1 ?_
 refine CW.seq fun K12 hK12 => ?_
 refine CW.seq fun K13 hK13 => ?_
 refine CW.region ?_
 refine WR.batch 1 [(2, pt g2 0), (3, .bool a0)] (by kernel_rfl) ?_
 refine WR.fin (by kernel_rfl) ?_
 refine go hK13 ?_
 refine CW.cond (a0) (by kernel_rfl) (fun ht14 => ?_) (fun ht14 => ?_)
 ·
  have hs15 := ifT ht14 hs
  refine CW.seq fun K16 hK16 => ?_
  refine CW.region ?_
  refine WR.batch 1 [(2, pt g2 0), (4, .agg #[.int .u64 0, .int .u64 4294967295])] (by kernel_rfl) ?_
  refine WR.store (t := 25) (o := 0) (v := .agg #[.int .u64 0, .int .u64 4294967295]) hb5 (by kernel_rfl) #[.int .u64 0, .int .u64 4294967295] (by kernel_rfl) ?_
  intro w17 hb18 hc19
  have hz21 := hc19.size
  have hC20 := hC9.step1 hc19 (by omega)
  refine WR.fin (by kernel_rfl) ?_
  refine go hK16 ?_
  refine CW.ret ?_
  exact retC [.agg #[.int .u64 0, .int .u64 4294967295]] _ rfl ⟨resCell hb18 rfl (by kernel_rfl), trivial⟩ (⟨hC20, (congrArg TSpan.v hs15).symm⟩)
 have hs22 := ifF ht14 hs
 refine CW.skip ?_
 refine go hK12 ?_
 refine CW.seq fun K23 hK23 => ?_
 refine CW.region ?_
 refine WR.batch 1 [(2, pt g2 0), (5, .agg #[.int .u64 0, .int .u64 18446744073709551615])] (by kernel_rfl) ?_
 refine WR.store (t := 25) (o := 0) (v := .agg #[.int .u64 0, .int .u64 18446744073709551615]) hb5 (by kernel_rfl) #[.int .u64 0, .int .u64 18446744073709551615] (by kernel_rfl) ?_
 intro w24 hb25 hc26
 have hz28 := hc26.size
 have hC27 := hC9.step1 hc26 (by omega)
 refine WR.fin (by kernel_rfl) ?_
 refine go hK23 ?_
 refine CW.ret ?_
 exact retC [.agg #[.int .u64 0, .int .u64 18446744073709551615]] _ rfl ⟨resCell hb25 rfl (by kernel_rfl), trivial⟩ (⟨hC27, (congrArg TSpan.v hs22).symm⟩)

def span_Right (a0 : TSpan)  : Bool := decide (a0.Lo ≤ a0.Hi)

theorem span_Right_any (a0 : TSpan)   (w : World)  (_h_a0 : IU64 a0.Lo ∧ IU64 a0.Hi)  : Calls Try.prog 28 #[.agg #[.int .u64 a0.Lo, .int .u64 a0.Hi]] w (RetV w (.bool (span_Right a0))) := by
 have hs := span_Right.eq_1 a0
 refine calls_of_CW Try.func28 rfl (n := 8) Try.ntmps28 (by kernel_rfl) [0] (F := [(0, .agg #[.int .u64 a0.Lo, .int .u64 a0.Hi])]) (by kernel_rfl) ?_
 refine CW.seq fun K1 hK1 => ?_
 refine CW.region ?_
 refine WR.box (dst := some 1) (e := 25) (v := .agg #[.int .u64 a0.Lo, .int .u64 a0.Hi]) (by kernel_rfl) #[.int .u64 a0.Lo, .int .u64 a0.Hi] (by kernel_rfl) ?_
 intro g2 w3 hN4
 have hf6 : w.heap.size ≤ g2 := hN4.fresh
 have hfr8 := hN4.fresh
 have hc7 := hN4.chg
 have hz10 := hc7.size
 have hC9 := (Chg.refl [] w).pure hc7
 have hb5 := hN4.blk
 have hg11 := hb5.lt
 refine WR.batch 1 [(1, pt g2 0)] (by kernel_rfl) ?_
 refine WR.fin (by kernel_rfl) ?_
 refine go hK1 ?_
 refine CW.seq fun K12 hK12 => ?_
 refine CW.region ?_
 refine WR.batch 1 [(1, pt g2 0), (3, pt g2 0)] (by kernel_rfl) ?_
 refine WR.load (dst := some 4) (t := 23) (o := 0) hb5 (by kernel_rfl) (.int .u64 a0.Lo) (by kernel_rfl) ?_
 refine WR.batch 1 [(4, .int .u64 a0.Lo), (5, pt g2 1)] (by kernel_rfl) ?_
 refine WR.load (dst := some 6) (t := 23) (o := 1) hb5 (by kernel_rfl) (.int .u64 a0.Hi) (by kernel_rfl) ?_
 refine WR.batch 2 [(2, .bool (decide (a0.Lo ≤ a0.Hi)))] (by kernel_rfl) ?_
 refine WR.fin (by kernel_rfl) ?_
 refine go hK12 ?_
 refine CW.ret ?_
 exact retV (.bool (decide (a0.Lo ≤ a0.Hi))) (by kernel_rfl) (⟨hC9, (congrArg (fun r : Bool => (.bool r : Value)) hs).symm⟩)

def span_Has (a0 : TSpan) (a1 : Int)  : Bool := ((decide (a0.Lo ≤ a1)) && (decide (a1 ≤ a0.Hi)))

theorem span_Has_any (a0 : TSpan) (a1 : Int)   (w : World)  (_h_a0 : IU64 a0.Lo ∧ IU64 a0.Hi) (_h_a1 : IU64 a1)  : Calls Try.prog 26 #[.agg #[.int .u64 a0.Lo, .int .u64 a0.Hi], .int .u64 a1] w (RetV w (.bool (span_Has a0 a1))) := by
 have hs := span_Has.eq_1 a0 a1
 refine calls_of_CW Try.func26 rfl (n := 15) Try.ntmps26 (by kernel_rfl) [0, 1] (F := [(0, .agg #[.int .u64 a0.Lo, .int .u64 a0.Hi]), (1, .int .u64 a1)]) (by kernel_rfl) ?_
 refine CW.seq fun K1 hK1 => ?_
 refine CW.region ?_
 refine WR.box (dst := some 2) (e := 25) (v := .agg #[.int .u64 a0.Lo, .int .u64 a0.Hi]) (by kernel_rfl) #[.int .u64 a0.Lo, .int .u64 a0.Hi] (by kernel_rfl) ?_
 intro g2 w3 hN4
 have hf6 : w.heap.size ≤ g2 := hN4.fresh
 have hfr8 := hN4.fresh
 have hc7 := hN4.chg
 have hz10 := hc7.size
 have hC9 := (Chg.refl [] w).pure hc7
 have hb5 := hN4.blk
 have hg11 := hb5.lt
 refine WR.batch 1 [(1, .int .u64 a1), (2, pt g2 0)] (by kernel_rfl) ?_
 refine WR.fin (by kernel_rfl) ?_
 refine go hK1 ?_
 refine CW.seq fun K12 hK12 => ?_
 refine CW.region ?_
 refine WR.batch 1 [(1, .int .u64 a1), (2, pt g2 0), (5, pt g2 0)] (by kernel_rfl) ?_
 refine WR.load (dst := some 6) (t := 23) (o := 0) hb5 (by kernel_rfl) (.int .u64 a0.Lo) (by kernel_rfl) ?_
 refine WR.batch 3 [(1, .int .u64 a1), (2, pt g2 0), (9, .bool (decide (a0.Lo ≤ a1)))] (by kernel_rfl) ?_
 refine WR.mergeW 10 [(14, .bool ((decide (a0.Lo ≤ a1)) && (decide (a1 ≤ a0.Hi))))] (fun w' => Chg [] w3 w') (fun Q' => ?_) ?_
 ·
  cases hg13 : decide (a0.Lo ≤ a1)
  ·
   have hk15 := hg13
   replace hg13 : ¬ (a0.Lo ≤ a1) := (of_decide_eq_false hg13)
   intro hM14
   refine WR.batch 5 [(14, .bool false)] (by kernel_rfl) ?_
   exact WR.keep [14] (by kernel_rfl) (hM14 _ (Chg.refl [] w3))
  ·
   have hk16 := hg13
   replace hg13 : a0.Lo ≤ a1 := (of_decide_eq_true hg13)
   intro hM14
   refine WR.batch 2 [(9, .bool true), (10, .int .u64 a1), (11, pt g2 1)] (by kernel_rfl) ?_
   refine WR.load (dst := some 12) (t := 23) (o := 1) hb5 (by kernel_rfl) (.int .u64 a0.Hi) (by kernel_rfl) ?_
   refine WR.batch 2 [(14, .bool (decide (a1 ≤ a0.Hi)))] (by kernel_rfl) ?_
   exact WR.keep [14] (by kernel_rfl) (hM14 _ (Chg.refl [] w3))
 intro w17 hc18
 have hz20 := hc18.size
 have hC19 := hC9.pure hc18
 refine WR.batch 1 [(4, .bool ((decide (a0.Lo ≤ a1)) && (decide (a1 ≤ a0.Hi))))] (by kernel_rfl) ?_
 refine WR.fin (by kernel_rfl) ?_
 refine go hK12 ?_
 refine CW.ret ?_
 exact retV (.bool ((decide (a0.Lo ≤ a1)) && (decide (a1 ≤ a0.Hi)))) (by kernel_rfl) (⟨hC19, (congrArg (fun r : Bool => (.bool r : Value)) hs).symm⟩)

def span_Within (a0 : TSpan) (a1 : TSpan)  : Bool := ((decide (a1.Lo ≤ a0.Lo)) && (decide (a0.Hi ≤ a1.Hi)))

theorem span_Within_any (a0 : TSpan) (a1 : TSpan)   (w : World)  (_h_a0 : IU64 a0.Lo ∧ IU64 a0.Hi) (_h_a1 : IU64 a1.Lo ∧ IU64 a1.Hi)  : Calls Try.prog 18 #[.agg #[.int .u64 a0.Lo, .int .u64 a0.Hi], .agg #[.int .u64 a1.Lo, .int .u64 a1.Hi]] w (RetV w (.bool (span_Within a0 a1))) := by
 have hs := span_Within.eq_1 a0 a1
 refine calls_of_CW Try.func18 rfl (n := 17) Try.ntmps18 (by kernel_rfl) [0, 1] (F := [(0, .agg #[.int .u64 a0.Lo, .int .u64 a0.Hi]), (1, .agg #[.int .u64 a1.Lo, .int .u64 a1.Hi])]) (by kernel_rfl) ?_
 refine CW.seq fun K1 hK1 => ?_
 refine CW.region ?_
 refine WR.box (dst := some 2) (e := 25) (v := .agg #[.int .u64 a0.Lo, .int .u64 a0.Hi]) (by kernel_rfl) #[.int .u64 a0.Lo, .int .u64 a0.Hi] (by kernel_rfl) ?_
 intro g2 w3 hN4
 have hf6 : w.heap.size ≤ g2 := hN4.fresh
 have hfr8 := hN4.fresh
 have hc7 := hN4.chg
 have hz10 := hc7.size
 have hC9 := (Chg.refl [] w).pure hc7
 have hb5 := hN4.blk
 have hg11 := hb5.lt
 refine WR.box (dst := some 3) (e := 25) (v := .agg #[.int .u64 a1.Lo, .int .u64 a1.Hi]) (by kernel_rfl) #[.int .u64 a1.Lo, .int .u64 a1.Hi] (by kernel_rfl) ?_
 intro g12 w13 hN14
 have hf16 : w.heap.size ≤ g12 := Nat.le_trans hC9.size hN14.fresh
 have hfr18 := hN14.fresh
 have hc17 := hN14.chg
 have hz20 := hc17.size
 have hC19 := hC9.pure hc17
 have hb15 := hN14.blk
 have hg21 := hb15.lt
 refine WR.batch 1 [(2, pt g2 0), (3, pt g12 0)] (by kernel_rfl) ?_
 refine WR.fin (by kernel_rfl) ?_
 refine go hK1 ?_
 refine CW.seq fun K22 hK22 => ?_
 refine CW.region ?_
 refine WR.batch 1 [(2, pt g2 0), (3, pt g12 0), (5, pt g12 0)] (by kernel_rfl) ?_
 refine WR.load (dst := some 6) (t := 23) (o := 0) hb15 (by kernel_rfl) (.int .u64 a1.Lo) (by kernel_rfl) ?_
 refine WR.batch 1 [(2, pt g2 0), (3, pt g12 0), (6, .int .u64 a1.Lo), (7, pt g2 0)] (by kernel_rfl) ?_
 have hb23 := hb5.pure hc17
 refine WR.load (dst := some 8) (t := 23) (o := 0) hb23 (by kernel_rfl) (.int .u64 a0.Lo) (by kernel_rfl) ?_
 refine WR.batch 2 [(2, pt g2 0), (3, pt g12 0), (10, .bool (decide (a1.Lo ≤ a0.Lo)))] (by kernel_rfl) ?_
 refine WR.mergeW 12 [(16, .bool ((decide (a1.Lo ≤ a0.Lo)) && (decide (a0.Hi ≤ a1.Hi))))] (fun w' => Chg [] w13 w') (fun Q' => ?_) ?_
 ·
  cases hg24 : decide (a1.Lo ≤ a0.Lo)
  ·
   have hk26 := hg24
   replace hg24 : ¬ (a1.Lo ≤ a0.Lo) := (of_decide_eq_false hg24)
   intro hM25
   refine WR.batch 6 [(16, .bool false)] (by kernel_rfl) ?_
   exact WR.keep [16] (by kernel_rfl) (hM25 _ (Chg.refl [] w13))
  ·
   have hk27 := hg24
   replace hg24 : a1.Lo ≤ a0.Lo := (of_decide_eq_true hg24)
   intro hM25
   refine WR.batch 1 [(3, pt g12 0), (10, .bool true), (11, pt g2 1)] (by kernel_rfl) ?_
   refine WR.load (dst := some 12) (t := 23) (o := 1) hb23 (by kernel_rfl) (.int .u64 a0.Hi) (by kernel_rfl) ?_
   refine WR.batch 1 [(10, .bool true), (12, .int .u64 a0.Hi), (13, pt g12 1)] (by kernel_rfl) ?_
   refine WR.load (dst := some 14) (t := 23) (o := 1) hb15 (by kernel_rfl) (.int .u64 a1.Hi) (by kernel_rfl) ?_
   refine WR.batch 2 [(16, .bool (decide (a0.Hi ≤ a1.Hi)))] (by kernel_rfl) ?_
   exact WR.keep [16] (by kernel_rfl) (hM25 _ (Chg.refl [] w13))
 intro w28 hc29
 have hz31 := hc29.size
 have hC30 := hC19.pure hc29
 refine WR.batch 1 [(4, .bool ((decide (a1.Lo ≤ a0.Lo)) && (decide (a0.Hi ≤ a1.Hi))))] (by kernel_rfl) ?_
 refine WR.fin (by kernel_rfl) ?_
 refine go hK22 ?_
 refine CW.ret ?_
 exact retV (.bool ((decide (a1.Lo ≤ a0.Lo)) && (decide (a0.Hi ≤ a1.Hi)))) (by kernel_rfl) (⟨hC30, (congrArg (fun r : Bool => (.bool r : Value)) hs).symm⟩)

def span_Join (a0 : TSpan) (a1 : TSpan)  : TSpan := (⟨(gMin a0.Lo a1.Lo), (gMax a0.Hi a1.Hi)⟩ : TSpan)

theorem span_Join_ok (a0 : TSpan) (a1 : TSpan)  (_h_a0 : IU64 a0.Lo ∧ IU64 a0.Hi) (_h_a1 : IU64 a1.Lo ∧ IU64 a1.Hi)  : IU64 (span_Join a0 a1).Lo ∧ IU64 (span_Join a0 a1).Hi := by
 rw [span_Join.eq_1]
 exact (by exact (show IU64 (gMin a0.Lo a1.Lo) ∧ IU64 (gMax a0.Hi a1.Hi) from ⟨(gMin_rng (by omega) (by omega)), (gMax_rng (by omega) (by omega))⟩))

theorem span_Join_any (a0 : TSpan) (a1 : TSpan)   (w : World)  (_h_a0 : IU64 a0.Lo ∧ IU64 a0.Hi) (_h_a1 : IU64 a1.Lo ∧ IU64 a1.Hi)  : Calls Try.prog 23 #[.agg #[.int .u64 a0.Lo, .int .u64 a0.Hi], .agg #[.int .u64 a1.Lo, .int .u64 a1.Hi]] w (RetV w (TSpan.v (span_Join a0 a1))) := by
 have hs := span_Join.eq_1 a0 a1
 refine calls_of_CW Try.func23 rfl (n := 16) Try.ntmps23 (by kernel_rfl) [0, 1] (F := [(0, .agg #[.int .u64 a0.Lo, .int .u64 a0.Hi]), (1, .agg #[.int .u64 a1.Lo, .int .u64 a1.Hi])]) (by kernel_rfl) ?_
 refine CW.seq fun K1 hK1 => ?_
 refine CW.region ?_
 refine WR.box (dst := some 2) (e := 25) (v := .agg #[.int .u64 a0.Lo, .int .u64 a0.Hi]) (by kernel_rfl) #[.int .u64 a0.Lo, .int .u64 a0.Hi] (by kernel_rfl) ?_
 intro g2 w3 hN4
 have hf6 : w.heap.size ≤ g2 := hN4.fresh
 have hfr8 := hN4.fresh
 have hc7 := hN4.chg
 have hz10 := hc7.size
 have hC9 := (Chg.refl [] w).pure hc7
 have hb5 := hN4.blk
 have hg11 := hb5.lt
 refine WR.box (dst := some 3) (e := 25) (v := .agg #[.int .u64 a1.Lo, .int .u64 a1.Hi]) (by kernel_rfl) #[.int .u64 a1.Lo, .int .u64 a1.Hi] (by kernel_rfl) ?_
 intro g12 w13 hN14
 have hf16 : w.heap.size ≤ g12 := Nat.le_trans hC9.size hN14.fresh
 have hfr18 := hN14.fresh
 have hc17 := hN14.chg
 have hz20 := hc17.size
 have hC19 := hC9.pure hc17
 have hb15 := hN14.blk
 have hg21 := hb15.lt
 refine WR.alloc (dst := some 4) (e := 25) (by kernel_rfl) #[.int .u64 0, .int .u64 0] (by kernel_rfl) ?_
 intro g22 w23 hN24
 have hf26 : w.heap.size ≤ g22 := Nat.le_trans hC19.size hN24.fresh
 have hfr28 := hN24.fresh
 have hc27 := hN24.chg
 have hz30 := hc27.size
 have hC29 := hC19.pure hc27
 have hb25 := hN24.blk
 have hg31 := hb25.lt
 refine WR.fin (by kernel_rfl) ?_
 refine go hK1 ?_
 refine CW.seq fun K32 hK32 => ?_
 refine CW.region ?_
 refine WR.batch 1 [(2, pt g2 0), (3, pt g12 0), (4, pt g22 0), (5, pt g2 0)] (by kernel_rfl) ?_
 have hb33 := (hb5.pure hc17).pure hc27
 refine WR.load (dst := some 6) (t := 23) (o := 0) hb33 (by kernel_rfl) (.int .u64 a0.Lo) (by kernel_rfl) ?_
 refine WR.batch 1 [(2, pt g2 0), (3, pt g12 0), (4, pt g22 0), (6, .int .u64 a0.Lo), (7, pt g12 0)] (by kernel_rfl) ?_
 have hb34 := hb15.pure hc27
 refine WR.load (dst := some 8) (t := 23) (o := 0) hb34 (by kernel_rfl) (.int .u64 a1.Lo) (by kernel_rfl) ?_
 refine WR.batch 2 [(3, pt g12 0), (4, pt g22 0), (9, .int .u64 (gMin a0.Lo a1.Lo)), (10, pt g2 1)] (by kernel_rfl) ?_
 refine WR.load (dst := some 11) (t := 23) (o := 1) hb33 (by kernel_rfl) (.int .u64 a0.Hi) (by kernel_rfl) ?_
 refine WR.batch 1 [(4, pt g22 0), (9, .int .u64 (gMin a0.Lo a1.Lo)), (11, .int .u64 a0.Hi), (12, pt g12 1)] (by kernel_rfl) ?_
 refine WR.load (dst := some 13) (t := 23) (o := 1) hb34 (by kernel_rfl) (.int .u64 a1.Hi) (by kernel_rfl) ?_
 refine WR.batch 2 [(4, pt g22 0), (15, .agg #[.int .u64 (gMin a0.Lo a1.Lo), .int .u64 (gMax a0.Hi a1.Hi)])] (by kernel_rfl) ?_
 refine WR.store (t := 25) (o := 0) (v := .agg #[.int .u64 (gMin a0.Lo a1.Lo), .int .u64 (gMax a0.Hi a1.Hi)]) hb25 (by kernel_rfl) #[.int .u64 (gMin a0.Lo a1.Lo), .int .u64 (gMax a0.Hi a1.Hi)] (by kernel_rfl) ?_
 intro w35 hb36 hc37
 have hz39 := hc37.size
 have hC38 := hC29.step1 hc37 (by omega)
 refine WR.fin (by kernel_rfl) ?_
 refine go hK32 ?_
 refine CW.ret ?_
 exact retC [.agg #[.int .u64 (gMin a0.Lo a1.Lo), .int .u64 (gMax a0.Hi a1.Hi)]] _ rfl ⟨resCell hb36 rfl (by kernel_rfl), trivial⟩ (⟨hC38, (congrArg TSpan.v hs).symm⟩)

def span_Meet (a0 : TSpan) (a1 : TSpan)  : (TSpan × Bool) := (letF (span_Right (⟨(gMax a0.Lo a1.Lo), (gMin a0.Hi a1.Hi)⟩ : TSpan)) fun x52 => (if (!x52) then ((⟨(0 : Int), (0 : Int)⟩ : TSpan), false) else ((⟨(gMax a0.Lo a1.Lo), (gMin a0.Hi a1.Hi)⟩ : TSpan), true)))

theorem span_Meet_ok (a0 : TSpan) (a1 : TSpan)  (_h_a0 : IU64 a0.Lo ∧ IU64 a0.Hi) (_h_a1 : IU64 a1.Lo ∧ IU64 a1.Hi)  : IU64 (span_Meet a0 a1).1.Lo ∧ IU64 (span_Meet a0 a1).1.Hi := by
 rw [span_Meet.eq_1]
 refine letR (p := fun r : (TSpan × Bool) => IU64 r.1.Lo ∧ IU64 r.1.Hi) fun x52 _ => ?_
 refine iteR (p := fun r : (TSpan × Bool) => IU64 r.1.Lo ∧ IU64 r.1.Hi) (fun hi1001 => ?_) (fun hi1001 => ?_)
 ·
  replace hi1001 : x52 = false := (bNotT hi1001)
  exact (by exact (show IU64 (0 : Int) ∧ IU64 (0 : Int) from ⟨(by omega), (by omega)⟩))
 replace hi1001 : x52 = true := (bNotF hi1001)
 exact (by exact (show IU64 (gMax a0.Lo a1.Lo) ∧ IU64 (gMin a0.Hi a1.Hi) from ⟨(gMax_rng (by omega) (by omega)), (gMin_rng (by omega) (by omega))⟩))

theorem span_Meet_any (a0 : TSpan) (a1 : TSpan)   (w : World)  (_h_a0 : IU64 a0.Lo ∧ IU64 a0.Hi) (_h_a1 : IU64 a1.Lo ∧ IU64 a1.Hi)  : Calls Try.prog 21 #[.agg #[.int .u64 a0.Lo, .int .u64 a0.Hi], .agg #[.int .u64 a1.Lo, .int .u64 a1.Hi]] w (RetV w (.tuple #[TSpan.v (span_Meet a0 a1).1, .bool (span_Meet a0 a1).2])) := by
 have hs := span_Meet.eq_1 a0 a1
 refine calls_of_CW Try.func21 rfl (n := 23) Try.ntmps21 (by kernel_rfl) [0, 1] (F := [(0, .agg #[.int .u64 a0.Lo, .int .u64 a0.Hi]), (1, .agg #[.int .u64 a1.Lo, .int .u64 a1.Hi])]) (by kernel_rfl) ?_
 refine CW.seq fun K1 hK1 => ?_
 refine CW.region ?_
 refine WR.box (dst := some 2) (e := 25) (v := .agg #[.int .u64 a0.Lo, .int .u64 a0.Hi]) (by kernel_rfl) #[.int .u64 a0.Lo, .int .u64 a0.Hi] (by kernel_rfl) ?_
 intro g2 w3 hN4
 have hf6 : w.heap.size ≤ g2 := hN4.fresh
 have hfr8 := hN4.fresh
 have hc7 := hN4.chg
 have hz10 := hc7.size
 have hC9 := (Chg.refl [] w).pure hc7
 have hb5 := hN4.blk
 have hg11 := hb5.lt
 refine WR.box (dst := some 3) (e := 25) (v := .agg #[.int .u64 a1.Lo, .int .u64 a1.Hi]) (by kernel_rfl) #[.int .u64 a1.Lo, .int .u64 a1.Hi] (by kernel_rfl) ?_
 intro g12 w13 hN14
 have hf16 : w.heap.size ≤ g12 := Nat.le_trans hC9.size hN14.fresh
 have hfr18 := hN14.fresh
 have hc17 := hN14.chg
 have hz20 := hc17.size
 have hC19 := hC9.pure hc17
 have hb15 := hN14.blk
 have hg21 := hb15.lt
 refine WR.alloc (dst := some 4) (e := 25) (by kernel_rfl) #[.int .u64 0, .int .u64 0] (by kernel_rfl) ?_
 intro g22 w23 hN24
 have hf26 : w.heap.size ≤ g22 := Nat.le_trans hC19.size hN24.fresh
 have hfr28 := hN24.fresh
 have hc27 := hN24.chg
 have hz30 := hc27.size
 have hC29 := hC19.pure hc27
 have hb25 := hN24.blk
 have hg31 := hb25.lt
 refine WR.batch 1 [(2, pt g2 0), (3, pt g12 0), (4, pt g22 0)] (by kernel_rfl) ?_
 refine WR.fin (by kernel_rfl) ?_
 refine go hK1 ?_
 refine CW.seq fun K32 hK32 => ?_
 refine CW.region ?_
 refine WR.batch 1 [(2, pt g2 0), (3, pt g12 0), (4, pt g22 0), (7, pt g2 0)] (by kernel_rfl) ?_
 have hb33 := (hb5.pure hc17).pure hc27
 refine WR.load (dst := some 8) (t := 23) (o := 0) hb33 (by kernel_rfl) (.int .u64 a0.Lo) (by kernel_rfl) ?_
 refine WR.batch 1 [(2, pt g2 0), (3, pt g12 0), (4, pt g22 0), (8, .int .u64 a0.Lo), (9, pt g12 0)] (by kernel_rfl) ?_
 have hb34 := hb15.pure hc27
 refine WR.load (dst := some 10) (t := 23) (o := 0) hb34 (by kernel_rfl) (.int .u64 a1.Lo) (by kernel_rfl) ?_
 refine WR.batch 2 [(3, pt g12 0), (4, pt g22 0), (11, .int .u64 (gMax a0.Lo a1.Lo)), (12, pt g2 1)] (by kernel_rfl) ?_
 refine WR.load (dst := some 13) (t := 23) (o := 1) hb33 (by kernel_rfl) (.int .u64 a0.Hi) (by kernel_rfl) ?_
 refine WR.batch 1 [(4, pt g22 0), (11, .int .u64 (gMax a0.Lo a1.Lo)), (13, .int .u64 a0.Hi), (14, pt g12 1)] (by kernel_rfl) ?_
 refine WR.load (dst := some 15) (t := 23) (o := 1) hb34 (by kernel_rfl) (.int .u64 a1.Hi) (by kernel_rfl) ?_
 refine WR.batch 2 [(4, pt g22 0), (17, .agg #[.int .u64 (gMax a0.Lo a1.Lo), .int .u64 (gMin a0.Hi a1.Hi)])] (by kernel_rfl) ?_
 refine WR.alloc (dst := some 6) (e := 25) (by kernel_rfl) #[.int .u64 0, .int .u64 0] (by kernel_rfl) ?_
 intro g35 w36 hN37
 have hf39 : w.heap.size ≤ g35 := Nat.le_trans hC29.size hN37.fresh
 have hfr41 := hN37.fresh
 have hc40 := hN37.chg
 have hz43 := hc40.size
 have hC42 := hC29.pure hc40
 have hb38 := hN37.blk
 have hg44 := hb38.lt
 refine WR.store (t := 25) (o := 0) (v := .agg #[.int .u64 (gMax a0.Lo a1.Lo), .int .u64 (gMin a0.Hi a1.Hi)]) hb38 (by kernel_rfl) #[.int .u64 (gMax a0.Lo a1.Lo), .int .u64 (gMin a0.Hi a1.Hi)] (by kernel_rfl) ?_
 intro w45 hb46 hc47
 have hz49 := hc47.size
 have hC48 := hC42.step1 hc47 (by omega)
 refine WR.fin (by kernel_rfl) ?_
 refine go hK32 ?_
 refine CW.seq fun K50 hK50 => ?_
 refine CW.seq fun K51 hK51 => ?_
 refine CW.region ?_
 refine WR.load (dst := some 18) (t := 25) (o := 0) hb46 (by kernel_rfl) (.agg #[.int .u64 (gMax a0.Lo a1.Lo), .int .u64 (gMin a0.Hi a1.Hi)]) (by kernel_rfl) ?_
 obtain ⟨x52, hx53⟩ : ∃ x, span_Right (⟨(gMax a0.Lo a1.Lo), (gMin a0.Hi a1.Hi)⟩ : TSpan) = x := ⟨_, rfl⟩
 have hs54 := letS hx53 hs
 refine WR.call (dst := some 19) (by kernel_rfl) (retE (g := (fun r : Bool => (.bool r : Value))) hx53 (span_Right_any (⟨(gMax a0.Lo a1.Lo), (gMin a0.Hi a1.Hi)⟩ : TSpan) w45  (show IU64 (gMax a0.Lo a1.Lo) ∧ IU64 (gMin a0.Hi a1.Hi) from ⟨(gMax_rng (by omega) (by omega)), (gMin_rng (by omega) (by omega))⟩) )) ?_
 rintro _ w55 hc56 rfl
 have hz58 := hc56.size
 have hC57 := hC48.pure hc56
 refine WR.batch 1 [(4, pt g22 0), (6, pt g35 0), (20, .bool (!x52))] (by kernel_rfl) ?_
 refine WR.fin (by kernel_rfl) ?_
 refine go hK51 ?_
 refine CW.cond ((!x52)) (by kernel_rfl) (fun ht59 => ?_) (fun ht59 => ?_)
 ·
  have hs60 := ifT ht59 hs54
  replace ht59 : x52 = false := (bNotT ht59)
  refine CW.seq fun K61 hK61 => ?_
  refine CW.region ?_
  refine WR.batch 1 [(4, pt g22 0), (21, .agg #[.int .u64 0, .int .u64 0])] (by kernel_rfl) ?_
  have hb65 := ((hb25.pure hc40).chg1 hc47 (by omega)).pure hc56
  refine WR.store (t := 25) (o := 0) (v := .agg #[.int .u64 0, .int .u64 0]) hb65 (by kernel_rfl) #[.int .u64 0, .int .u64 0] (by kernel_rfl) ?_
  intro w62 hb63 hc64
  have hz67 := hc64.size
  have hC66 := hC57.step1 hc64 (by omega)
  refine WR.batch 1 [(4, pt g22 0), (5, .bool false)] (by kernel_rfl) ?_
  refine WR.fin (by kernel_rfl) ?_
  refine go hK61 ?_
  refine CW.ret ?_
  exact retC [.agg #[.int .u64 0, .int .u64 0], .bool false] _ rfl ⟨resCell hb63 rfl (by kernel_rfl), rfl, trivial⟩ (⟨hC66, (congrArg (fun r : (TSpan × Bool) => (.tuple #[TSpan.v r.1, .bool r.2] : Value)) hs60).symm⟩)
 have hs68 := ifF ht59 hs54
 replace ht59 : x52 = true := (bNotF ht59)
 refine CW.skip ?_
 refine go hK50 ?_
 refine CW.seq fun K69 hK69 => ?_
 refine CW.region ?_
 have hb70 := hb46.pure hc56
 refine WR.load (dst := some 22) (t := 25) (o := 0) hb70 (by kernel_rfl) (.agg #[.int .u64 (gMax a0.Lo a1.Lo), .int .u64 (gMin a0.Hi a1.Hi)]) (by kernel_rfl) ?_
 have hb74 := ((hb25.pure hc40).chg1 hc47 (by omega)).pure hc56
 refine WR.store (t := 25) (o := 0) (v := .agg #[.int .u64 (gMax a0.Lo a1.Lo), .int .u64 (gMin a0.Hi a1.Hi)]) hb74 (by kernel_rfl) #[.int .u64 (gMax a0.Lo a1.Lo), .int .u64 (gMin a0.Hi a1.Hi)] (by kernel_rfl) ?_
 intro w71 hb72 hc73
 have hz76 := hc73.size
 have hC75 := hC57.step1 hc73 (by omega)
 refine WR.batch 1 [(4, pt g22 0), (5, .bool true)] (by kernel_rfl) ?_
 refine WR.fin (by kernel_rfl) ?_
 refine go hK69 ?_
 refine CW.ret ?_
 exact retC [.agg #[.int .u64 (gMax a0.Lo a1.Lo), .int .u64 (gMin a0.Hi a1.Hi)], .bool true] _ rfl ⟨resCell hb72 rfl (by kernel_rfl), rfl, trivial⟩ (⟨hC75, (congrArg (fun r : (TSpan × Bool) => (.tuple #[TSpan.v r.1, .bool r.2] : Value)) hs68).symm⟩)

def span_must (a0 : Bool)  : Option Unit := (if (!a0) then none else some ())

theorem span_must_any (a0 : Bool)   (w : World)    : Calls Try.prog 126 #[.bool a0] w (RetP w (.iface 76 (.agg #[])) (((span_must a0)).map (fun _ : Unit => (.tuple #[] : Value)))) := by
 have hs := span_must.eq_1 a0
 refine calls_of_CW Try.func126 rfl (n := 6) Try.ntmps126 (by kernel_rfl) [0] (F := [(0, .bool a0)]) (by kernel_rfl) ?_
 refine CW.seq fun K1 hK1 => ?_
 refine CW.region ?_
 refine WR.batch 2 [(3, .bool (!a0))] (by kernel_rfl) ?_
 refine WR.fin (by kernel_rfl) ?_
 refine go hK1 ?_
 refine CW.cond ((!a0)) (by kernel_rfl) (fun ht2 => ?_) (fun ht2 => ?_)
 ·
  have hs3 := ifT ht2 hs
  replace ht2 : a0 = false := (bNotT ht2)
  refine CW.region ?_
  refine WR.batch 2 [(5, .iface 76 (.agg #[]))] (by kernel_rfl) ?_
  refine WR.throwR (dst := none) (v := .iface 76 (.agg #[])) (w' := w) (by kernel_rfl) ?_
  exact panicV (P := Try.prog) (fn := Try.f126) (retP_pan hs3 (Chg.refl _ _))
 have hs4 := ifF ht2 hs
 replace ht2 : a0 = true := (bNotF ht2)
 refine CW.skip ?_
 exact endV (.tuple #[]) (by kernel_rfl) (retP_ret (g := (fun _ : Unit => (.tuple #[] : Value))) hs4 rfl (Chg.refl _ _))

def span_cut (a0 : TSpan) (a1 : Bool)  : TSpan := (if (!a1) then a0 else (if ((sShr .u64 a0.Lo (32 : Int)) != (sShr .u64 a0.Hi (32 : Int))) then (letF (span_All true) fun x39 => x39) else (⟨(bAnd .u64 a0.Lo (4294967295 : Int)), (bAnd .u64 a0.Hi (4294967295 : Int))⟩ : TSpan)))

theorem span_cut_ok (a0 : TSpan) (a1 : Bool)  (_h_a0 : IU64 a0.Lo ∧ IU64 a0.Hi)  : IU64 (span_cut a0 a1).Lo ∧ IU64 (span_cut a0 a1).Hi := by
 rw [span_cut.eq_1]
 refine iteR (p := fun r : TSpan => IU64 r.Lo ∧ IU64 r.Hi) (fun hi1001 => ?_) (fun hi1001 => ?_)
 ·
  replace hi1001 : a1 = false := (bNotT hi1001)
  exact (by exact (show IU64 a0.Lo ∧ IU64 a0.Hi from ⟨(by omega), (by omega)⟩))
 replace hi1001 : a1 = true := (bNotF hi1001)
 refine iteR (p := fun r : TSpan => IU64 r.Lo ∧ IU64 r.Hi) (fun hi1002 => ?_) (fun hi1002 => ?_)
 ·
  replace hi1002 : (sShr .u64 a0.Lo (32 : Int)) ≠ (sShr .u64 a0.Hi (32 : Int)) := (bNeT hi1002)
  refine letR (p := fun r : TSpan => IU64 r.Lo ∧ IU64 r.Hi) fun x39 hx40 => ?_
  have hx41 : IU64 x39.Lo ∧ IU64 x39.Hi := by rw [← hx40]; exact span_All_ok true 
  exact (by exact (show IU64 x39.Lo ∧ IU64 x39.Hi from ⟨(by omega), (by omega)⟩))
 replace hi1002 : (sShr .u64 a0.Lo (32 : Int)) = (sShr .u64 a0.Hi (32 : Int)) := (bNeF hi1002)
 exact (by exact (show IU64 (bAnd .u64 a0.Lo (4294967295 : Int)) ∧ IU64 (bAnd .u64 a0.Hi (4294967295 : Int)) from ⟨(wrapU64 _), (wrapU64 _)⟩))

theorem span_cut_any (a0 : TSpan) (a1 : Bool)   (w : World)  (_h_a0 : IU64 a0.Lo ∧ IU64 a0.Hi)  : Calls Try.prog 89 #[.agg #[.int .u64 a0.Lo, .int .u64 a0.Hi], .bool a1] w (RetV w (TSpan.v (span_cut a0 a1))) := by
 have hs := span_cut.eq_1 a0 a1
 refine calls_of_CW Try.func89 rfl (n := 25) Try.ntmps89 (by kernel_rfl) [0, 1] (F := [(0, .agg #[.int .u64 a0.Lo, .int .u64 a0.Hi]), (1, .bool a1)]) (by kernel_rfl) ?_
 refine CW.seq fun K1 hK1 => ?_
 refine CW.region ?_
 refine WR.box (dst := some 2) (e := 25) (v := .agg #[.int .u64 a0.Lo, .int .u64 a0.Hi]) (by kernel_rfl) #[.int .u64 a0.Lo, .int .u64 a0.Hi] (by kernel_rfl) ?_
 intro g2 w3 hN4
 have hf6 : w.heap.size ≤ g2 := hN4.fresh
 have hfr8 := hN4.fresh
 have hc7 := hN4.chg
 have hz10 := hc7.size
 have hC9 := (Chg.refl [] w).pure hc7
 have hb5 := hN4.blk
 have hg11 := hb5.lt
 refine WR.alloc (dst := some 4) (e := 25) (by kernel_rfl) #[.int .u64 0, .int .u64 0] (by kernel_rfl) ?_
 intro g12 w13 hN14
 have hf16 : w.heap.size ≤ g12 := Nat.le_trans hC9.size hN14.fresh
 have hfr18 := hN14.fresh
 have hc17 := hN14.chg
 have hz20 := hc17.size
 have hC19 := hC9.pure hc17
 have hb15 := hN14.blk
 have hg21 := hb15.lt
 refine WR.fin (by kernel_rfl) ?_
 refine go hK1 ?_
 refine CW.seq fun K22 hK22 => ?_
 refine CW.block ?_
 refine CW.seq fun K23 hK23 => ?_
 refine CW.region ?_
 refine WR.batch 3 [(2, pt g2 0), (4, pt g12 0), (5, .bool (!a1))] (by kernel_rfl) ?_
 refine WR.fin (by kernel_rfl) ?_
 refine go hK23 ?_
 refine CW.cond ((!a1)) (by kernel_rfl) (fun ht24 => ?_) (fun ht24 => ?_)
 ·
  have hs25 := ifT ht24 hs
  replace ht24 : a1 = false := (bNotT ht24)
  refine CW.seq fun K26 hK26 => ?_
  refine CW.region ?_
  have hb27 := hb5.pure hc17
  refine WR.load (dst := some 8) (t := 25) (o := 0) hb27 (by kernel_rfl) (.agg #[.int .u64 a0.Lo, .int .u64 a0.Hi]) (by kernel_rfl) ?_
  refine WR.store (t := 25) (o := 0) (v := .agg #[.int .u64 a0.Lo, .int .u64 a0.Hi]) hb15 (by kernel_rfl) #[.int .u64 a0.Lo, .int .u64 a0.Hi] (by kernel_rfl) ?_
  intro w28 hb29 hc30
  have hz32 := hc30.size
  have hC31 := hC19.step1 hc30 (by omega)
  refine WR.fin (by kernel_rfl) ?_
  refine go hK26 ?_
  refine CW.ret ?_
  exact retC [.agg #[.int .u64 a0.Lo, .int .u64 a0.Hi]] _ rfl ⟨resCell hb29 rfl (by kernel_rfl), trivial⟩ (⟨hC31, (congrArg TSpan.v hs25).symm⟩)
 have hs33 := ifF ht24 hs
 replace ht24 : a1 = true := (bNotF ht24)
 refine CW.seq fun K34 hK34 => ?_
 refine CW.region ?_
 refine WR.batch 1 [(2, pt g2 0), (4, pt g12 0), (10, pt g2 0)] (by kernel_rfl) ?_
 have hb35 := hb5.pure hc17
 refine WR.load (dst := some 11) (t := 23) (o := 0) hb35 (by kernel_rfl) (.int .u64 a0.Lo) (by kernel_rfl) ?_
 refine WR.batch 2 [(2, pt g2 0), (4, pt g12 0), (12, .int .u64 (sShr .u64 a0.Lo (32 : Int))), (13, pt g2 1)] (by kernel_rfl) ?_
 refine WR.load (dst := some 14) (t := 23) (o := 1) hb35 (by kernel_rfl) (.int .u64 a0.Hi) (by kernel_rfl) ?_
 refine WR.batch 3 [(2, pt g2 0), (4, pt g12 0), (9, .bool ((sShr .u64 a0.Lo (32 : Int)) != (sShr .u64 a0.Hi (32 : Int))))] (by kernel_rfl) ?_
 refine WR.fin (by kernel_rfl) ?_
 refine go hK34 ?_
 refine CW.cond (((sShr .u64 a0.Lo (32 : Int)) != (sShr .u64 a0.Hi (32 : Int)))) (by kernel_rfl) (fun ht36 => ?_) (fun ht36 => ?_)
 ·
  have hs37 := ifT ht36 hs33
  replace ht36 : (sShr .u64 a0.Lo (32 : Int)) ≠ (sShr .u64 a0.Hi (32 : Int)) := (bNeT ht36)
  refine CW.seq fun K38 hK38 => ?_
  refine CW.region ?_
  obtain ⟨x39, hx40⟩ : ∃ x, span_All true = x := ⟨_, rfl⟩
  have hs42 := letS hx40 hs37
  have hx41 : IU64 x39.Lo ∧ IU64 x39.Hi := by rw [← hx40]; exact span_All_ok true 
  refine WR.call (dst := some 17) (by kernel_rfl) (retE (g := TSpan.v) hx40 (span_All_any true w13  )) ?_
  rintro _ w43 hc44 rfl
  have hz46 := hc44.size
  have hC45 := hC19.pure hc44
  have hb50 := hb15.pure hc44
  refine WR.store (t := 25) (o := 0) (v := .agg #[.int .u64 x39.Lo, .int .u64 x39.Hi]) hb50 (by kernel_rfl) #[.int .u64 x39.Lo, .int .u64 x39.Hi] (by kernel_rfl) ?_
  intro w47 hb48 hc49
  have hz52 := hc49.size
  have hC51 := hC45.step1 hc49 (by omega)
  refine WR.fin (by kernel_rfl) ?_
  refine go hK38 ?_
  refine CW.ret ?_
  exact retC [.agg #[.int .u64 x39.Lo, .int .u64 x39.Hi]] _ rfl ⟨resCell hb48 rfl (by kernel_rfl), trivial⟩ (⟨hC51, (congrArg TSpan.v hs42).symm⟩)
 have hs53 := ifF ht36 hs33
 replace ht36 : (sShr .u64 a0.Lo (32 : Int)) = (sShr .u64 a0.Hi (32 : Int)) := (bNeF ht36)
 refine CW.skip ?_
 refine go hK22 ?_
 refine CW.seq fun K54 hK54 => ?_
 refine CW.region ?_
 refine WR.batch 1 [(2, pt g2 0), (4, pt g12 0), (18, pt g2 0)] (by kernel_rfl) ?_
 refine WR.load (dst := some 19) (t := 23) (o := 0) hb35 (by kernel_rfl) (.int .u64 a0.Lo) (by kernel_rfl) ?_
 refine WR.batch 2 [(4, pt g12 0), (20, .int .u64 (bAnd .u64 a0.Lo (4294967295 : Int))), (21, pt g2 1)] (by kernel_rfl) ?_
 refine WR.load (dst := some 22) (t := 23) (o := 1) hb35 (by kernel_rfl) (.int .u64 a0.Hi) (by kernel_rfl) ?_
 refine WR.batch 2 [(4, pt g12 0), (24, .agg #[.int .u64 (bAnd .u64 a0.Lo (4294967295 : Int)), .int .u64 (bAnd .u64 a0.Hi (4294967295 : Int))])] (by kernel_rfl) ?_
 refine WR.store (t := 25) (o := 0) (v := .agg #[.int .u64 (bAnd .u64 a0.Lo (4294967295 : Int)), .int .u64 (bAnd .u64 a0.Hi (4294967295 : Int))]) hb15 (by kernel_rfl) #[.int .u64 (bAnd .u64 a0.Lo (4294967295 : Int)), .int .u64 (bAnd .u64 a0.Hi (4294967295 : Int))] (by kernel_rfl) ?_
 intro w55 hb56 hc57
 have hz59 := hc57.size
 have hC58 := hC19.step1 hc57 (by omega)
 refine WR.fin (by kernel_rfl) ?_
 refine go hK54 ?_
 refine CW.ret ?_
 exact retC [.agg #[.int .u64 (bAnd .u64 a0.Lo (4294967295 : Int)), .int .u64 (bAnd .u64 a0.Hi (4294967295 : Int))]] _ rfl ⟨resCell hb56 rfl (by kernel_rfl), trivial⟩ (⟨hC58, (congrArg TSpan.v hs53).symm⟩)

def span_one (a0 : TSpan)  : Bool := (letF (span_Of a0.Lo) fun x13 => ((a0.Lo == x13.Lo) && (a0.Hi == x13.Hi)))

theorem span_one_any (a0 : TSpan)   (w : World)  (_h_a0 : IU64 a0.Lo ∧ IU64 a0.Hi)  : Calls Try.prog 131 #[.agg #[.int .u64 a0.Lo, .int .u64 a0.Hi]] w (RetV w (.bool (span_one a0))) := by
 have hs := span_one.eq_1 a0
 refine calls_of_CW Try.func131 rfl (n := 8) Try.ntmps131 (by kernel_rfl) [0] (F := [(0, .agg #[.int .u64 a0.Lo, .int .u64 a0.Hi])]) (by kernel_rfl) ?_
 refine CW.seq fun K1 hK1 => ?_
 refine CW.region ?_
 refine WR.box (dst := some 1) (e := 25) (v := .agg #[.int .u64 a0.Lo, .int .u64 a0.Hi]) (by kernel_rfl) #[.int .u64 a0.Lo, .int .u64 a0.Hi] (by kernel_rfl) ?_
 intro g2 w3 hN4
 have hf6 : w.heap.size ≤ g2 := hN4.fresh
 have hfr8 := hN4.fresh
 have hc7 := hN4.chg
 have hz10 := hc7.size
 have hC9 := (Chg.refl [] w).pure hc7
 have hb5 := hN4.blk
 have hg11 := hb5.lt
 refine WR.batch 1 [(1, pt g2 0)] (by kernel_rfl) ?_
 refine WR.fin (by kernel_rfl) ?_
 refine go hK1 ?_
 refine CW.seq fun K12 hK12 => ?_
 refine CW.regionQ (by kernel_rfl) (by kernel_rfl) ?_
 refine WQ.load (dst := some 3) (t := 25) (o := 0) (fun _ hq => hb5.pure hq) (by kernel_rfl) (.agg #[.int .u64 a0.Lo, .int .u64 a0.Hi]) (by kernel_rfl) ?_
 refine WQ.val (dst := some 4) (pt g2 0) (fun _ => by kernel_rfl) ?_
 refine WQ.load (dst := some 5) (t := 23) (o := 0) (fun _ hq => hb5.pure hq) (by kernel_rfl) (.int .u64 a0.Lo) (by kernel_rfl) ?_
 obtain ⟨x13, hx14⟩ : ∃ x, span_Of a0.Lo = x := ⟨_, rfl⟩
 have hs16 := letS hx14 hs
 have hx15 : IU64 x13.Lo ∧ IU64 x13.Hi := by rw [← hx14]; exact span_Of_ok a0.Lo (by omega) 
 refine WQ.call (dst := some 6) (.agg #[.int .u64 x13.Lo, .int .u64 x13.Hi]) (fun _ => by kernel_rfl) (fun _ _ h h' => h.pure h') (fun wq hq => retE (g := TSpan.v) hx14 (span_Of_any a0.Lo wq  (by omega) )) ?_
 refine WQ.val (dst := some 7) (.bool ((a0.Lo == x13.Lo) && (a0.Hi == x13.Hi))) (run_eqS (t := 25) (xs := #[.int .u64 a0.Lo, .int .u64 a0.Hi]) (ys := #[.int .u64 x13.Lo, .int .u64 x13.Hi]) (neg := false) (b := ((a0.Lo == x13.Lo) && (a0.Hi == x13.Hi))) (by kernel_rfl) (by kernel_rfl) (by kernel_rfl)) ?_
 refine WQ.val (dst := some 2) (.bool ((a0.Lo == x13.Lo) && (a0.Hi == x13.Hi))) (fun _ => by kernel_rfl) ?_
 refine WQ.fin (by kernel_rfl) ?_
 intro w17 hc18
 have hz20 := hc18.size
 have hC19 := hC9.pure hc18
 refine go hK12 ?_
 refine CW.ret ?_
 exact retV (.bool ((a0.Lo == x13.Lo) && (a0.Hi == x13.Hi))) (by kernel_rfl) (⟨hC19, (congrArg (fun r : Bool => (.bool r : Value)) hs16).symm⟩)

structure Twork where
  a : TSpan
  b : TSpan
  narrow : Bool
  most : Int
  size : Int
deriving Inhabited, DecidableEq
abbrev Twork.v (r : Twork) : Value := .agg #[.int .u64 r.a.Lo, .int .u64 r.a.Hi, .int .u64 r.b.Lo, .int .u64 r.b.Hi, .bool r.narrow, .int .u64 r.most, .int .u64 r.size]

def span_over (a0 : Bool) (a1 : TSpan) (a2 : TSpan)  : Twork := (if a0 then (⟨(span_cut a1 a0), (span_cut a2 a0), a0, (4294967295 : Int), (32 : Int)⟩ : Twork) else (⟨(span_cut a1 a0), (span_cut a2 a0), a0, (18446744073709551615 : Int), (64 : Int)⟩ : Twork))

theorem span_over_ok (a0 : Bool) (a1 : TSpan) (a2 : TSpan)  (_h_a1 : IU64 a1.Lo ∧ IU64 a1.Hi) (_h_a2 : IU64 a2.Lo ∧ IU64 a2.Hi)  : IU64 (span_over a0 a1 a2).a.Lo ∧ IU64 (span_over a0 a1 a2).a.Hi ∧ IU64 (span_over a0 a1 a2).b.Lo ∧ IU64 (span_over a0 a1 a2).b.Hi ∧ IU64 (span_over a0 a1 a2).most ∧ IU64 (span_over a0 a1 a2).size := by
 rw [span_over.eq_1]
 refine iteR (p := fun r : Twork => IU64 r.a.Lo ∧ IU64 r.a.Hi ∧ IU64 r.b.Lo ∧ IU64 r.b.Hi ∧ IU64 r.most ∧ IU64 r.size) (fun hi1001 => ?_) (fun hi1001 => ?_)
 ·
  exact (by have : IU64 (span_cut a1 a0).Lo ∧ IU64 (span_cut a1 a0).Hi := span_cut_ok a1 a0 ⟨(by omega), (by omega)⟩ ; have : IU64 (span_cut a2 a0).Lo ∧ IU64 (span_cut a2 a0).Hi := span_cut_ok a2 a0 ⟨(by omega), (by omega)⟩ ; exact (show IU64 (span_cut a1 a0).Lo ∧ IU64 (span_cut a1 a0).Hi ∧ IU64 (span_cut a2 a0).Lo ∧ IU64 (span_cut a2 a0).Hi ∧ IU64 (4294967295 : Int) ∧ IU64 (32 : Int) from ⟨(by omega), (by omega), (by omega), (by omega), (by omega), (by omega)⟩))
 exact (by have : IU64 (span_cut a1 a0).Lo ∧ IU64 (span_cut a1 a0).Hi := span_cut_ok a1 a0 ⟨(by omega), (by omega)⟩ ; have : IU64 (span_cut a2 a0).Lo ∧ IU64 (span_cut a2 a0).Hi := span_cut_ok a2 a0 ⟨(by omega), (by omega)⟩ ; exact (show IU64 (span_cut a1 a0).Lo ∧ IU64 (span_cut a1 a0).Hi ∧ IU64 (span_cut a2 a0).Lo ∧ IU64 (span_cut a2 a0).Hi ∧ IU64 (18446744073709551615 : Int) ∧ IU64 (64 : Int) from ⟨(by omega), (by omega), (by omega), (by omega), (by omega), (by omega)⟩))

set_option maxRecDepth 100000 in
set_option maxHeartbeats 4000000 in
theorem span_over_any (a0 : Bool) (a1 : TSpan) (a2 : TSpan)   (w : World)  (_h_a1 : IU64 a1.Lo ∧ IU64 a1.Hi) (_h_a2 : IU64 a2.Lo ∧ IU64 a2.Hi)  : Calls Try.prog 55 #[.bool a0, .agg #[.int .u64 a1.Lo, .int .u64 a1.Hi], .agg #[.int .u64 a2.Lo, .int .u64 a2.Hi]] w (RetV w (Twork.v (span_over a0 a1 a2))) := by
 have hs := span_over.eq_1 a0 a1 a2
 refine calls_of_CW Try.func55 rfl (n := 20) Try.ntmps55 (by kernel_rfl) [0, 1, 2] (F := [(0, .bool a0), (1, .agg #[.int .u64 a1.Lo, .int .u64 a1.Hi]), (2, .agg #[.int .u64 a2.Lo, .int .u64 a2.Hi])]) (by kernel_rfl) ?_
 refine CW.seq fun K1 hK1 => ?_
 refine CW.region ?_
 refine WR.box (dst := some 4) (e := 25) (v := .agg #[.int .u64 a1.Lo, .int .u64 a1.Hi]) (by kernel_rfl) #[.int .u64 a1.Lo, .int .u64 a1.Hi] (by kernel_rfl) ?_
 intro g2 w3 hN4
 have hf6 : w.heap.size ≤ g2 := hN4.fresh
 have hfr8 := hN4.fresh
 have hc7 := hN4.chg
 have hz10 := hc7.size
 have hC9 := (Chg.refl [] w).pure hc7
 have hb5 := hN4.blk
 have hg11 := hb5.lt
 refine WR.box (dst := some 5) (e := 25) (v := .agg #[.int .u64 a2.Lo, .int .u64 a2.Hi]) (by kernel_rfl) #[.int .u64 a2.Lo, .int .u64 a2.Hi] (by kernel_rfl) ?_
 intro g12 w13 hN14
 have hf16 : w.heap.size ≤ g12 := Nat.le_trans hC9.size hN14.fresh
 have hfr18 := hN14.fresh
 have hc17 := hN14.chg
 have hz20 := hc17.size
 have hC19 := hC9.pure hc17
 have hb15 := hN14.blk
 have hg21 := hb15.lt
 refine WR.alloc (dst := some 6) (e := 79) (by kernel_rfl) #[.int .u64 0, .int .u64 0, .int .u64 0, .int .u64 0, .bool false, .int .u64 0, .int .u64 0] (by kernel_rfl) ?_
 intro g22 w23 hN24
 have hf26 : w.heap.size ≤ g22 := Nat.le_trans hC19.size hN24.fresh
 have hfr28 := hN24.fresh
 have hc27 := hN24.chg
 have hz30 := hc27.size
 have hC29 := hC19.pure hc27
 have hb25 := hN24.blk
 have hg31 := hb25.lt
 refine WR.fin (by kernel_rfl) ?_
 refine go hK1 ?_
 refine CW.seq fun K32 hK32 => ?_
 refine CW.keep [0, 4, 5, 6] (F' := [(0, .bool a0), (4, pt g2 0), (5, pt g12 0), (6, pt g22 0)]) (by kernel_rfl) ?_
 refine CW.regionG 9 [some (.agg #[.int .u64 a1.Lo, .int .u64 a1.Hi]), some (.bool a0), some (.agg #[.int .u64 (span_cut a1 a0).Lo, .int .u64 (span_cut a1 a0).Hi]), some (.agg #[.int .u64 a2.Lo, .int .u64 a2.Hi]), some (.bool a0), some (.agg #[.int .u64 (span_cut a2 a0).Lo, .int .u64 (span_cut a2 a0).Hi]), some (.bool a0), some (.agg #[.int .u64 (span_cut a1 a0).Lo, .int .u64 (span_cut a1 a0).Hi, .int .u64 (span_cut a2 a0).Lo, .int .u64 (span_cut a2 a0).Hi, .bool a0, .int .u64 18446744073709551615, .int .u64 64]), none] (fun u => [(8, .agg #[.int .u64 a1.Lo, .int .u64 a1.Hi]), (9, .bool a0), (10, .agg #[.int .u64 (span_cut a1 a0).Lo, .int .u64 (span_cut a1 a0).Hi]), (11, .agg #[.int .u64 a2.Lo, .int .u64 a2.Hi]), (12, .bool a0), (13, .agg #[.int .u64 (span_cut a2 a0).Lo, .int .u64 (span_cut a2 a0).Hi]), (14, .bool a0), (15, .agg #[.int .u64 (span_cut a1 a0).Lo, .int .u64 (span_cut a1 a0).Hi, .int .u64 (span_cut a2 a0).Lo, .int .u64 (span_cut a2 a0).Hi, .bool a0, .int .u64 18446744073709551615, .int .u64 64]), (7, u 8), (0, .bool a0), (4, pt g2 0), (5, pt g12 0), (6, pt g22 0)]) (fun _ => by kernel_rfl) (by kernel_rfl) [] (fun _ _ => True) (fun _ => trivial) (fun _ _ _ _ _ _ _ => trivial) [8] [] (by kernel_rfl) (fun w' => Chg [] w23 w') (fun i v w' => match i with | 0 => True | 1 => True | 2 => True | 3 => True | 4 => True | 5 => True | 6 => True | 7 => True | 8 => ∃ g, v = .pointer (some ⟨g, 0, none⟩) ∧ Blk w' g #[.int .u64 0, .int .u64 0, .int .u64 0, .int .u64 0, .bool false, .int .u64 0, .int .u64 0] 79 ∧ w23.heap.size ≤ g | _ => True) (fun j x w hj h => match j, hj, h with | 0, hj, h => absurd hj (by decide) | 1, hj, h => absurd hj (by decide) | 2, hj, h => absurd hj (by decide) | 3, hj, h => absurd hj (by decide) | 4, hj, h => absurd hj (by decide) | 5, hj, h => absurd hj (by decide) | 6, hj, h => absurd hj (by decide) | 7, hj, h => absurd hj (by decide) | 8, hj, h => newLt h | j + 9, hj, _ => absurd hj (by simp)) (by kernel_rfl) (by kernel_rfl) (by kernel_rfl) (by kernel_rfl) (Chg.drew w23) (fun _ _ _ h h' => h.step h' (fun t ht => .inl (cL_sub t ht))) ?_ ⟨?_, (obsG_batch 1 1 7 (fun _ _ => by kernel_rfl) (by kernel_rfl) ⟨?_, ⟨?_, (obsG_batch 1 4 4 (fun _ _ => by kernel_rfl) (by kernel_rfl) ⟨?_, (obsG_batch 2 6 1 (fun _ _ => by kernel_rfl) (by kernel_rfl) ⟨?_, trivial⟩)⟩)⟩⟩)⟩ ?_
 ·
  intro i j v w1 w2 hij h hc
  match j, hij, h with
  | 0, _, _ => trivial
  | 1, _, _ => trivial
  | 2, _, _ => trivial
  | 3, _, _ => trivial
  | 4, _, _ => trivial
  | 5, _, _ => trivial
  | 6, _, _ => trivial
  | 7, _, _ => trivial
  | 8, _, h => exact h.elim fun g h => ⟨g, h.1, h.2.1.pure hc, h.2.2⟩
  | n + 9, _, _ => trivial
 ·
  intro u33 w34 hW35 _ hp36 hal37
  have hz40 := hW35.size
  have hC39 := hC29.pure hW35
  have hb41 := ((hb5.pure hc17).pure hc27).pure hW35
  refine WR.load (dst := some 8) (t := 25) (o := 0) hb41 (by kernel_rfl) (.agg #[.int .u64 a1.Lo, .int .u64 a1.Hi]) (by kernel_rfl) ?_
  refine WR.fin (by kernel_rfl) ?_
  exact fun _ ha => ⟨Chg.refl _ _, _, ha, ⟨⟨fun h => absurd h (by decide), alNone (by decide)⟩, rfl⟩⟩
 ·
  intro u42 w43 hW44 _ hp45 hal46
  have hz49 := hW44.size
  have hC48 := hC29.pure hW44
  have hx50 : IU64 (span_cut a1 a0).Lo ∧ IU64 (span_cut a1 a0).Hi := span_cut_ok a1 a0 ⟨(by omega), (by omega)⟩ 
  have hx51 : IU64 (span_cut a2 a0).Lo ∧ IU64 (span_cut a2 a0).Hi := span_cut_ok a2 a0 ⟨(by omega), (by omega)⟩ 
  have hx52 : IU64 (span_cut a1 a0).Lo ∧ IU64 (span_cut a1 a0).Hi := span_cut_ok a1 a0 ⟨(by omega), (by omega)⟩ 
  refine WR.call (dst := some 10) (by kernel_rfl) (span_cut_any a1 a0 w43  ⟨(by omega), (by omega)⟩ ) ?_
  rintro _ w53 hc54 rfl
  have hz56 := hc54.size
  have hC55 := hC48.pure hc54
  refine WR.fin (by kernel_rfl) ?_
  exact fun _ ha => ⟨hc54, _, ha, ⟨⟨fun h => absurd h (by decide), alNone (by decide)⟩, rfl⟩⟩
 ·
  intro u57 w58 hW59 _ hp60 hal61
  have hz64 := hW59.size
  have hC63 := hC29.pure hW59
  have hb65 := (hb15.pure hc27).pure hW59
  refine WR.load (dst := some 11) (t := 25) (o := 0) hb65 (by kernel_rfl) (.agg #[.int .u64 a2.Lo, .int .u64 a2.Hi]) (by kernel_rfl) ?_
  refine WR.fin (by kernel_rfl) ?_
  exact fun _ ha => ⟨Chg.refl _ _, _, ha, ⟨⟨fun h => absurd h (by decide), alNone (by decide)⟩, rfl⟩⟩
 ·
  intro u66 w67 hW68 _ hp69 hal70
  have hz73 := hW68.size
  have hC72 := hC29.pure hW68
  have hx74 : IU64 (span_cut a1 a0).Lo ∧ IU64 (span_cut a1 a0).Hi := span_cut_ok a1 a0 ⟨(by omega), (by omega)⟩ 
  have hx75 : IU64 (span_cut a2 a0).Lo ∧ IU64 (span_cut a2 a0).Hi := span_cut_ok a2 a0 ⟨(by omega), (by omega)⟩ 
  have hx76 : IU64 (span_cut a2 a0).Lo ∧ IU64 (span_cut a2 a0).Hi := span_cut_ok a2 a0 ⟨(by omega), (by omega)⟩ 
  refine WR.call (dst := some 13) (by kernel_rfl) (span_cut_any a2 a0 w67  ⟨(by omega), (by omega)⟩ ) ?_
  rintro _ w77 hc78 rfl
  have hz80 := hc78.size
  have hC79 := hC72.pure hc78
  refine WR.fin (by kernel_rfl) ?_
  exact fun _ ha => ⟨hc78, _, ha, ⟨⟨fun h => absurd h (by decide), alNone (by decide)⟩, rfl⟩⟩
 ·
  intro u81 w82 hW83 _ hp84 hal85
  have hz88 := hW83.size
  have hC87 := hC29.pure hW83
  refine WR.alloc (dst := some 7) (e := 79) (by kernel_rfl) #[.int .u64 0, .int .u64 0, .int .u64 0, .int .u64 0, .bool false, .int .u64 0, .int .u64 0] (by kernel_rfl) ?_
  intro g89 w90 hN91
  have hf93 : w.heap.size ≤ g89 := Nat.le_trans hC87.size hN91.fresh
  have hfr95 := hN91.fresh
  have hc94 := hN91.chg
  have hz97 := hc94.size
  have hC96 := hC87.pure hc94
  have hb92 := hN91.blk
  have hg98 := hb92.lt
  refine WR.fin (by kernel_rfl) ?_
  exact fun _ ha => ⟨hc94, _, ha, ⟨⟨fun _ => .inr (by simp only [adOf, bk]; omega), alNone (by decide)⟩, ⟨g89, rfl, hb92, by omega⟩⟩⟩
 intro u99 w100 hW101 hr102 _ _
 have hz106 := hW101.size
 have hC105 := hC29.pure hW101
 obtain ⟨g108, hp107, hb109, hf110⟩ : ∃ g, u99 8 = .pointer (some ⟨g, 0, none⟩) ∧ Blk w100 g #[.int .u64 0, .int .u64 0, .int .u64 0, .int .u64 0, .bool false, .int .u64 0, .int .u64 0] 79 ∧ w23.heap.size ≤ g := hr102 8 (by omega) (by kernel_rfl)
 have hg111 := hb109.lt
 have hf112 : w.heap.size ≤ g108 := Nat.le_trans hC29.size hf110
 have hx113 : IU64 (span_cut a1 a0).Lo ∧ IU64 (span_cut a1 a0).Hi := span_cut_ok a1 a0 ⟨(by omega), (by omega)⟩ 
 have hx114 : IU64 (span_cut a2 a0).Lo ∧ IU64 (span_cut a2 a0).Hi := span_cut_ok a2 a0 ⟨(by omega), (by omega)⟩ 
 refine WR.keep [0, 6, 7, 15] (F' := [(0, .bool a0), (6, pt g22 0), (7, u99 8), (15, .agg #[.int .u64 (span_cut a1 a0).Lo, .int .u64 (span_cut a1 a0).Hi, .int .u64 (span_cut a2 a0).Lo, .int .u64 (span_cut a2 a0).Hi, .bool a0, .int .u64 18446744073709551615, .int .u64 64])]) (by kernel_rfl) ?_
 refine WR.eqF (F' := [(0, .bool a0), (6, pt g22 0), (7, pt g108 0), (15, .agg #[.int .u64 (span_cut a1 a0).Lo, .int .u64 (span_cut a1 a0).Hi, .int .u64 (span_cut a2 a0).Lo, .int .u64 (span_cut a2 a0).Hi, .bool a0, .int .u64 18446744073709551615, .int .u64 64])]) (by rw [hp107]) ?_
 refine WR.store (t := 79) (o := 0) (v := .agg #[.int .u64 (span_cut a1 a0).Lo, .int .u64 (span_cut a1 a0).Hi, .int .u64 (span_cut a2 a0).Lo, .int .u64 (span_cut a2 a0).Hi, .bool a0, .int .u64 18446744073709551615, .int .u64 64]) hb109 (by kernel_rfl) #[.int .u64 (span_cut a1 a0).Lo, .int .u64 (span_cut a1 a0).Hi, .int .u64 (span_cut a2 a0).Lo, .int .u64 (span_cut a2 a0).Hi, .bool a0, .int .u64 18446744073709551615, .int .u64 64] (by kernel_rfl) ?_
 intro w115 hb116 hc117
 have hz119 := hc117.size
 have hC118 := hC105.step1 hc117 (by omega)
 refine WR.fin (by kernel_rfl) ?_
 refine go hK32 ?_
 refine CW.seq fun K120 hK120 => ?_
 refine CW.seq fun K121 hK121 => ?_
 refine CW.region ?_
 refine WR.batch 1 [(6, pt g22 0), (7, pt g108 0), (16, .bool a0)] (by kernel_rfl) ?_
 refine WR.fin (by kernel_rfl) ?_
 refine go hK121 ?_
 refine CW.cond (a0) (by kernel_rfl) (fun ht122 => ?_) (fun ht122 => ?_)
 ·
  have hs123 := ifT ht122 hs
  refine CW.region ?_
  refine WR.batch 1 [(6, pt g22 0), (7, pt g108 0), (17, pt g108 5)] (by kernel_rfl) ?_
  refine WR.store (t := 23) (o := 5) (v := .int .u64 4294967295) hb116 (by kernel_rfl) #[.int .u64 (span_cut a1 a0).Lo, .int .u64 (span_cut a1 a0).Hi, .int .u64 (span_cut a2 a0).Lo, .int .u64 (span_cut a2 a0).Hi, .bool a0, .int .u64 4294967295, .int .u64 64] (by kernel_rfl) ?_
  intro w124 hb125 hc126
  have hz128 := hc126.size
  have hC127 := hC118.step1 hc126 (by omega)
  refine WR.batch 1 [(6, pt g22 0), (7, pt g108 0), (18, pt g108 6)] (by kernel_rfl) ?_
  refine WR.store (t := 23) (o := 6) (v := .int .u64 32) hb125 (by kernel_rfl) #[.int .u64 (span_cut a1 a0).Lo, .int .u64 (span_cut a1 a0).Hi, .int .u64 (span_cut a2 a0).Lo, .int .u64 (span_cut a2 a0).Hi, .bool a0, .int .u64 4294967295, .int .u64 32] (by kernel_rfl) ?_
  intro w129 hb130 hc131
  have hz133 := hc131.size
  have hC132 := hC127.step1 hc131 (by omega)
  refine WR.fin (by kernel_rfl) ?_
  refine go hK120 ?_
  refine CW.seq fun K134 hK134 => ?_
  refine CW.region ?_
  refine WR.load (dst := some 19) (t := 79) (o := 0) hb130 (by kernel_rfl) (.agg #[.int .u64 (span_cut a1 a0).Lo, .int .u64 (span_cut a1 a0).Hi, .int .u64 (span_cut a2 a0).Lo, .int .u64 (span_cut a2 a0).Hi, .bool a0, .int .u64 4294967295, .int .u64 32]) (by kernel_rfl) ?_
  have hb138 := (((hb25.pure hW101).chg1 hc117 (by omega)).chg1 hc126 (by omega)).chg1 hc131 (by omega)
  refine WR.store (t := 79) (o := 0) (v := .agg #[.int .u64 (span_cut a1 a0).Lo, .int .u64 (span_cut a1 a0).Hi, .int .u64 (span_cut a2 a0).Lo, .int .u64 (span_cut a2 a0).Hi, .bool a0, .int .u64 4294967295, .int .u64 32]) hb138 (by kernel_rfl) #[.int .u64 (span_cut a1 a0).Lo, .int .u64 (span_cut a1 a0).Hi, .int .u64 (span_cut a2 a0).Lo, .int .u64 (span_cut a2 a0).Hi, .bool a0, .int .u64 4294967295, .int .u64 32] (by kernel_rfl) ?_
  intro w135 hb136 hc137
  have hz140 := hc137.size
  have hC139 := hC132.step1 hc137 (by omega)
  refine WR.fin (by kernel_rfl) ?_
  refine go hK134 ?_
  refine CW.ret ?_
  exact retC [.agg #[.int .u64 (span_cut a1 a0).Lo, .int .u64 (span_cut a1 a0).Hi, .int .u64 (span_cut a2 a0).Lo, .int .u64 (span_cut a2 a0).Hi, .bool a0, .int .u64 4294967295, .int .u64 32]] _ rfl ⟨resCell hb136 rfl (by kernel_rfl), trivial⟩ (⟨hC139, (congrArg Twork.v hs123).symm⟩)
 have hs141 := ifF ht122 hs
 refine CW.skip ?_
 refine go hK120 ?_
 refine CW.seq fun K142 hK142 => ?_
 refine CW.region ?_
 refine WR.load (dst := some 19) (t := 79) (o := 0) hb116 (by kernel_rfl) (.agg #[.int .u64 (span_cut a1 a0).Lo, .int .u64 (span_cut a1 a0).Hi, .int .u64 (span_cut a2 a0).Lo, .int .u64 (span_cut a2 a0).Hi, .bool a0, .int .u64 18446744073709551615, .int .u64 64]) (by kernel_rfl) ?_
 have hb146 := (hb25.pure hW101).chg1 hc117 (by omega)
 refine WR.store (t := 79) (o := 0) (v := .agg #[.int .u64 (span_cut a1 a0).Lo, .int .u64 (span_cut a1 a0).Hi, .int .u64 (span_cut a2 a0).Lo, .int .u64 (span_cut a2 a0).Hi, .bool a0, .int .u64 18446744073709551615, .int .u64 64]) hb146 (by kernel_rfl) #[.int .u64 (span_cut a1 a0).Lo, .int .u64 (span_cut a1 a0).Hi, .int .u64 (span_cut a2 a0).Lo, .int .u64 (span_cut a2 a0).Hi, .bool a0, .int .u64 18446744073709551615, .int .u64 64] (by kernel_rfl) ?_
 intro w143 hb144 hc145
 have hz148 := hc145.size
 have hC147 := hC118.step1 hc145 (by omega)
 refine WR.fin (by kernel_rfl) ?_
 refine go hK142 ?_
 refine CW.ret ?_
 exact retC [.agg #[.int .u64 (span_cut a1 a0).Lo, .int .u64 (span_cut a1 a0).Hi, .int .u64 (span_cut a2 a0).Lo, .int .u64 (span_cut a2 a0).Hi, .bool a0, .int .u64 18446744073709551615, .int .u64 64]] _ rfl ⟨resCell hb144 rfl (by kernel_rfl), trivial⟩ (⟨hC147, (congrArg Twork.v hs141).symm⟩)

def span_work_both (a0 : Twork)  : Bool := (letF (span_one a0.a) fun x13 => (x13 && (span_one a0.b)))

theorem span_work_both_any (a0 : Twork)   (w : World)  (_h_a0 : IU64 a0.a.Lo ∧ IU64 a0.a.Hi ∧ IU64 a0.b.Lo ∧ IU64 a0.b.Hi ∧ IU64 a0.most ∧ IU64 a0.size)  : Calls Try.prog 129 #[.agg #[.int .u64 a0.a.Lo, .int .u64 a0.a.Hi, .int .u64 a0.b.Lo, .int .u64 a0.b.Hi, .bool a0.narrow, .int .u64 a0.most, .int .u64 a0.size]] w (RetV w (.bool (span_work_both a0))) := by
 have hs := span_work_both.eq_1 a0
 refine calls_of_CW Try.func129 rfl (n := 11) Try.ntmps129 (by kernel_rfl) [0] (F := [(0, .agg #[.int .u64 a0.a.Lo, .int .u64 a0.a.Hi, .int .u64 a0.b.Lo, .int .u64 a0.b.Hi, .bool a0.narrow, .int .u64 a0.most, .int .u64 a0.size])]) (by kernel_rfl) ?_
 refine CW.seq fun K1 hK1 => ?_
 refine CW.region ?_
 refine WR.box (dst := some 1) (e := 79) (v := .agg #[.int .u64 a0.a.Lo, .int .u64 a0.a.Hi, .int .u64 a0.b.Lo, .int .u64 a0.b.Hi, .bool a0.narrow, .int .u64 a0.most, .int .u64 a0.size]) (by kernel_rfl) #[.int .u64 a0.a.Lo, .int .u64 a0.a.Hi, .int .u64 a0.b.Lo, .int .u64 a0.b.Hi, .bool a0.narrow, .int .u64 a0.most, .int .u64 a0.size] (by kernel_rfl) ?_
 intro g2 w3 hN4
 have hf6 : w.heap.size ≤ g2 := hN4.fresh
 have hfr8 := hN4.fresh
 have hc7 := hN4.chg
 have hz10 := hc7.size
 have hC9 := (Chg.refl [] w).pure hc7
 have hb5 := hN4.blk
 have hg11 := hb5.lt
 refine WR.batch 1 [(1, pt g2 0)] (by kernel_rfl) ?_
 refine WR.fin (by kernel_rfl) ?_
 refine go hK1 ?_
 refine CW.seq fun K12 hK12 => ?_
 refine CW.region ?_
 refine WR.batch 1 [(1, pt g2 0), (3, pt g2 0)] (by kernel_rfl) ?_
 refine WR.load (dst := some 4) (t := 25) (o := 0) hb5 (by kernel_rfl) (.agg #[.int .u64 a0.a.Lo, .int .u64 a0.a.Hi]) (by kernel_rfl) ?_
 obtain ⟨x13, hx14⟩ : ∃ x, span_one a0.a = x := ⟨_, rfl⟩
 have hs15 := letS hx14 hs
 refine WR.call (dst := some 5) (by kernel_rfl) (retE (g := (fun r : Bool => (.bool r : Value))) hx14 (span_one_any a0.a w3  ⟨(by omega), (by omega)⟩ )) ?_
 rintro _ w16 hc17 rfl
 have hz19 := hc17.size
 have hC18 := hC9.pure hc17
 refine WR.batch 1 [(1, pt g2 0), (6, .bool x13)] (by kernel_rfl) ?_
 refine WR.mergeW 8 [(10, .bool (x13 && (span_one a0.b)))] (fun w' => Chg [] w16 w') (fun Q' => ?_) ?_
 ·
  cases hg20 : x13
  ·
   have hk22 := hg20
   intro hM21
   refine WR.batch 4 [(10, .bool false)] (by kernel_rfl) ?_
   exact WR.keep [10] (by kernel_rfl) (hM21 _ (Chg.refl [] w16))
  ·
   have hk23 := hg20
   intro hM21
   refine WR.batch 1 [(6, .bool true), (7, pt g2 2)] (by kernel_rfl) ?_
   have hb24 := hb5.pure hc17
   refine WR.load (dst := some 8) (t := 25) (o := 2) hb24 (by kernel_rfl) (.agg #[.int .u64 a0.b.Lo, .int .u64 a0.b.Hi]) (by kernel_rfl) ?_
   refine WR.call (dst := some 9) (by kernel_rfl) (span_one_any a0.b w16  ⟨(by omega), (by omega)⟩ ) ?_
   rintro _ w25 hc26 rfl
   have hz28 := hc26.size
   have hC27 := hC18.pure hc26
   refine WR.batch 1 [(10, .bool (span_one a0.b))] (by kernel_rfl) ?_
   exact WR.keep [10] (by kernel_rfl) (hM21 _ ((Chg.refl [] w16).pure hc26))
 intro w29 hc30
 have hz32 := hc30.size
 have hC31 := hC18.pure hc30
 refine WR.batch 1 [(2, .bool (x13 && (span_one a0.b)))] (by kernel_rfl) ?_
 refine WR.fin (by kernel_rfl) ?_
 refine go hK12 ?_
 refine CW.ret ?_
 exact retV (.bool (x13 && (span_one a0.b))) (by kernel_rfl) (⟨hC31, (congrArg (fun r : Bool => (.bool r : Value)) hs15).symm⟩)

def span_work_ends (a0 : Twork) (a1 : Int) (a2 : Int)  : TSpan := (⟨(bAnd .u64 a1 a0.most), (bAnd .u64 a2 a0.most)⟩ : TSpan)

theorem span_work_ends_ok (a0 : Twork) (a1 : Int) (a2 : Int)  (_h_a0 : IU64 a0.a.Lo ∧ IU64 a0.a.Hi ∧ IU64 a0.b.Lo ∧ IU64 a0.b.Hi ∧ IU64 a0.most ∧ IU64 a0.size) (_h_a1 : IU64 a1) (_h_a2 : IU64 a2)  : IU64 (span_work_ends a0 a1 a2).Lo ∧ IU64 (span_work_ends a0 a1 a2).Hi := by
 rw [span_work_ends.eq_1]
 exact (by exact (show IU64 (bAnd .u64 a1 a0.most) ∧ IU64 (bAnd .u64 a2 a0.most) from ⟨(wrapU64 _), (wrapU64 _)⟩))

theorem span_work_ends_any (a0 : Twork) (a1 : Int) (a2 : Int)   (w : World)  (_h_a0 : IU64 a0.a.Lo ∧ IU64 a0.a.Hi ∧ IU64 a0.b.Lo ∧ IU64 a0.b.Hi ∧ IU64 a0.most ∧ IU64 a0.size) (_h_a1 : IU64 a1) (_h_a2 : IU64 a2)  : Calls Try.prog 127 #[.agg #[.int .u64 a0.a.Lo, .int .u64 a0.a.Hi, .int .u64 a0.b.Lo, .int .u64 a0.b.Hi, .bool a0.narrow, .int .u64 a0.most, .int .u64 a0.size], .int .u64 a1, .int .u64 a2] w (RetV w (TSpan.v (span_work_ends a0 a1 a2))) := by
 have hs := span_work_ends.eq_1 a0 a1 a2
 refine calls_of_CW Try.func127 rfl (n := 16) Try.ntmps127 (by kernel_rfl) [0, 1, 2] (F := [(0, .agg #[.int .u64 a0.a.Lo, .int .u64 a0.a.Hi, .int .u64 a0.b.Lo, .int .u64 a0.b.Hi, .bool a0.narrow, .int .u64 a0.most, .int .u64 a0.size]), (1, .int .u64 a1), (2, .int .u64 a2)]) (by kernel_rfl) ?_
 refine CW.seq fun K1 hK1 => ?_
 refine CW.region ?_
 refine WR.box (dst := some 3) (e := 79) (v := .agg #[.int .u64 a0.a.Lo, .int .u64 a0.a.Hi, .int .u64 a0.b.Lo, .int .u64 a0.b.Hi, .bool a0.narrow, .int .u64 a0.most, .int .u64 a0.size]) (by kernel_rfl) #[.int .u64 a0.a.Lo, .int .u64 a0.a.Hi, .int .u64 a0.b.Lo, .int .u64 a0.b.Hi, .bool a0.narrow, .int .u64 a0.most, .int .u64 a0.size] (by kernel_rfl) ?_
 intro g2 w3 hN4
 have hf6 : w.heap.size ≤ g2 := hN4.fresh
 have hfr8 := hN4.fresh
 have hc7 := hN4.chg
 have hz10 := hc7.size
 have hC9 := (Chg.refl [] w).pure hc7
 have hb5 := hN4.blk
 have hg11 := hb5.lt
 refine WR.alloc (dst := some 6) (e := 25) (by kernel_rfl) #[.int .u64 0, .int .u64 0] (by kernel_rfl) ?_
 intro g12 w13 hN14
 have hf16 : w.heap.size ≤ g12 := Nat.le_trans hC9.size hN14.fresh
 have hfr18 := hN14.fresh
 have hc17 := hN14.chg
 have hz20 := hc17.size
 have hC19 := hC9.pure hc17
 have hb15 := hN14.blk
 have hg21 := hb15.lt
 refine WR.fin (by kernel_rfl) ?_
 refine go hK1 ?_
 refine CW.seq fun K22 hK22 => ?_
 refine CW.region ?_
 refine WR.batch 2 [(2, .int .u64 a2), (3, pt g2 0), (6, pt g12 0), (7, .int .u64 a1), (8, pt g2 5)] (by kernel_rfl) ?_
 have hb23 := hb5.pure hc17
 refine WR.load (dst := some 9) (t := 23) (o := 5) hb23 (by kernel_rfl) (.int .u64 a0.most) (by kernel_rfl) ?_
 refine WR.batch 3 [(6, pt g12 0), (10, .int .u64 (bAnd .u64 a1 a0.most)), (11, .int .u64 a2), (12, pt g2 5)] (by kernel_rfl) ?_
 refine WR.load (dst := some 13) (t := 23) (o := 5) hb23 (by kernel_rfl) (.int .u64 a0.most) (by kernel_rfl) ?_
 refine WR.batch 2 [(6, pt g12 0), (15, .agg #[.int .u64 (bAnd .u64 a1 a0.most), .int .u64 (bAnd .u64 a2 a0.most)])] (by kernel_rfl) ?_
 refine WR.store (t := 25) (o := 0) (v := .agg #[.int .u64 (bAnd .u64 a1 a0.most), .int .u64 (bAnd .u64 a2 a0.most)]) hb15 (by kernel_rfl) #[.int .u64 (bAnd .u64 a1 a0.most), .int .u64 (bAnd .u64 a2 a0.most)] (by kernel_rfl) ?_
 intro w24 hb25 hc26
 have hz28 := hc26.size
 have hC27 := hC19.step1 hc26 (by omega)
 refine WR.fin (by kernel_rfl) ?_
 refine go hK22 ?_
 refine CW.ret ?_
 exact retC [.agg #[.int .u64 (bAnd .u64 a1 a0.most), .int .u64 (bAnd .u64 a2 a0.most)]] _ rfl ⟨resCell hb25 rfl (by kernel_rfl), trivial⟩ (⟨hC27, (congrArg TSpan.v hs).symm⟩)

def span_work_below (a0 : Twork) (a1 : Int)  : Bool := ((bAnd .u64 (sShr .u64 a1 (IntKind.u64.wrap (a0.size - (1 : Int)))) (1 : Int)) == (1 : Int))

theorem span_work_below_any (a0 : Twork) (a1 : Int)   (w : World)  (_h_a0 : IU64 a0.a.Lo ∧ IU64 a0.a.Hi ∧ IU64 a0.b.Lo ∧ IU64 a0.b.Hi ∧ IU64 a0.most ∧ IU64 a0.size) (_h_a1 : IU64 a1)  : Calls Try.prog 133 #[.agg #[.int .u64 a0.a.Lo, .int .u64 a0.a.Hi, .int .u64 a0.b.Lo, .int .u64 a0.b.Hi, .bool a0.narrow, .int .u64 a0.most, .int .u64 a0.size], .int .u64 a1] w (RetV w (.bool (span_work_below a0 a1))) := by
 have hs := span_work_below.eq_1 a0 a1
 refine calls_of_CW Try.func133 rfl (n := 12) Try.ntmps133 (by kernel_rfl) [0, 1] (F := [(0, .agg #[.int .u64 a0.a.Lo, .int .u64 a0.a.Hi, .int .u64 a0.b.Lo, .int .u64 a0.b.Hi, .bool a0.narrow, .int .u64 a0.most, .int .u64 a0.size]), (1, .int .u64 a1)]) (by kernel_rfl) ?_
 refine CW.seq fun K1 hK1 => ?_
 refine CW.region ?_
 refine WR.box (dst := some 2) (e := 79) (v := .agg #[.int .u64 a0.a.Lo, .int .u64 a0.a.Hi, .int .u64 a0.b.Lo, .int .u64 a0.b.Hi, .bool a0.narrow, .int .u64 a0.most, .int .u64 a0.size]) (by kernel_rfl) #[.int .u64 a0.a.Lo, .int .u64 a0.a.Hi, .int .u64 a0.b.Lo, .int .u64 a0.b.Hi, .bool a0.narrow, .int .u64 a0.most, .int .u64 a0.size] (by kernel_rfl) ?_
 intro g2 w3 hN4
 have hf6 : w.heap.size ≤ g2 := hN4.fresh
 have hfr8 := hN4.fresh
 have hc7 := hN4.chg
 have hz10 := hc7.size
 have hC9 := (Chg.refl [] w).pure hc7
 have hb5 := hN4.blk
 have hg11 := hb5.lt
 refine WR.batch 1 [(1, .int .u64 a1), (2, pt g2 0)] (by kernel_rfl) ?_
 refine WR.fin (by kernel_rfl) ?_
 refine go hK1 ?_
 refine CW.seq fun K12 hK12 => ?_
 refine CW.region ?_
 refine WR.batch 2 [(5, .int .u64 a1), (6, pt g2 6)] (by kernel_rfl) ?_
 refine WR.load (dst := some 7) (t := 23) (o := 6) hb5 (by kernel_rfl) (.int .u64 a0.size) (by kernel_rfl) ?_
 refine WR.batch 1 [(5, .int .u64 a1), (8, .int .u64 (IntKind.u64.wrap (a0.size - (1 : Int))))] (by kernel_rfl) ?_
 refine WR.valR (dst := some 9) (v := .int .u64 (sShr .u64 a1 (IntKind.u64.wrap (a0.size - (1 : Int))))) (w' := w3) (run_shr (kk := .u64) (k' := .u64) (x := a1) (y := (IntKind.u64.wrap (a0.size - (1 : Int)))) (by kernel_rfl) (show IU64 (IntKind.u64.wrap (a0.size - (1 : Int))) from (wrapU64 _)).1 w3) ?_
 refine WR.batch 3 [(4, .bool ((bAnd .u64 (sShr .u64 a1 (IntKind.u64.wrap (a0.size - (1 : Int)))) (1 : Int)) == (1 : Int)))] (by kernel_rfl) ?_
 refine WR.fin (by kernel_rfl) ?_
 refine go hK12 ?_
 refine CW.ret ?_
 exact retV (.bool ((bAnd .u64 (sShr .u64 a1 (IntKind.u64.wrap (a0.size - (1 : Int)))) (1 : Int)) == (1 : Int))) (by kernel_rfl) (⟨hC9, (congrArg (fun r : Bool => (.bool r : Value)) hs).symm⟩)

def span_work_mixed (a0 : Twork) (a1 : TSpan)  : Bool := (letF (span_work_below a0 a1.Lo) fun x24 => (letF (span_work_below a0 a1.Hi) fun x27 => (x24 != x27)))

theorem span_work_mixed_any (a0 : Twork) (a1 : TSpan)   (w : World)  (_h_a0 : IU64 a0.a.Lo ∧ IU64 a0.a.Hi ∧ IU64 a0.b.Lo ∧ IU64 a0.b.Hi ∧ IU64 a0.most ∧ IU64 a0.size) (_h_a1 : IU64 a1.Lo ∧ IU64 a1.Hi)  : Calls Try.prog 132 #[.agg #[.int .u64 a0.a.Lo, .int .u64 a0.a.Hi, .int .u64 a0.b.Lo, .int .u64 a0.b.Hi, .bool a0.narrow, .int .u64 a0.most, .int .u64 a0.size], .agg #[.int .u64 a1.Lo, .int .u64 a1.Hi]] w (RetV w (.bool (span_work_mixed a0 a1))) := by
 have hs := span_work_mixed.eq_1 a0 a1
 refine calls_of_CW Try.func132 rfl (n := 14) Try.ntmps132 (by kernel_rfl) [0, 1] (F := [(0, .agg #[.int .u64 a0.a.Lo, .int .u64 a0.a.Hi, .int .u64 a0.b.Lo, .int .u64 a0.b.Hi, .bool a0.narrow, .int .u64 a0.most, .int .u64 a0.size]), (1, .agg #[.int .u64 a1.Lo, .int .u64 a1.Hi])]) (by kernel_rfl) ?_
 refine CW.seq fun K1 hK1 => ?_
 refine CW.region ?_
 refine WR.box (dst := some 2) (e := 79) (v := .agg #[.int .u64 a0.a.Lo, .int .u64 a0.a.Hi, .int .u64 a0.b.Lo, .int .u64 a0.b.Hi, .bool a0.narrow, .int .u64 a0.most, .int .u64 a0.size]) (by kernel_rfl) #[.int .u64 a0.a.Lo, .int .u64 a0.a.Hi, .int .u64 a0.b.Lo, .int .u64 a0.b.Hi, .bool a0.narrow, .int .u64 a0.most, .int .u64 a0.size] (by kernel_rfl) ?_
 intro g2 w3 hN4
 have hf6 : w.heap.size ≤ g2 := hN4.fresh
 have hfr8 := hN4.fresh
 have hc7 := hN4.chg
 have hz10 := hc7.size
 have hC9 := (Chg.refl [] w).pure hc7
 have hb5 := hN4.blk
 have hg11 := hb5.lt
 refine WR.box (dst := some 3) (e := 25) (v := .agg #[.int .u64 a1.Lo, .int .u64 a1.Hi]) (by kernel_rfl) #[.int .u64 a1.Lo, .int .u64 a1.Hi] (by kernel_rfl) ?_
 intro g12 w13 hN14
 have hf16 : w.heap.size ≤ g12 := Nat.le_trans hC9.size hN14.fresh
 have hfr18 := hN14.fresh
 have hc17 := hN14.chg
 have hz20 := hc17.size
 have hC19 := hC9.pure hc17
 have hb15 := hN14.blk
 have hg21 := hb15.lt
 refine WR.batch 1 [(2, pt g2 0), (3, pt g12 0)] (by kernel_rfl) ?_
 refine WR.fin (by kernel_rfl) ?_
 refine go hK1 ?_
 refine CW.seq fun K22 hK22 => ?_
 refine CW.regionQ (by kernel_rfl) (by kernel_rfl) ?_
 have hb23 := hb5.pure hc17
 refine WQ.load (dst := some 5) (t := 79) (o := 0) (fun _ hq => hb23.pure hq) (by kernel_rfl) (.agg #[.int .u64 a0.a.Lo, .int .u64 a0.a.Hi, .int .u64 a0.b.Lo, .int .u64 a0.b.Hi, .bool a0.narrow, .int .u64 a0.most, .int .u64 a0.size]) (by kernel_rfl) ?_
 refine WQ.val (dst := some 6) (pt g12 0) (fun _ => by kernel_rfl) ?_
 refine WQ.load (dst := some 7) (t := 23) (o := 0) (fun _ hq => hb15.pure hq) (by kernel_rfl) (.int .u64 a1.Lo) (by kernel_rfl) ?_
 obtain ⟨x24, hx25⟩ : ∃ x, span_work_below a0 a1.Lo = x := ⟨_, rfl⟩
 have hs26 := letS hx25 hs
 refine WQ.call (dst := some 8) (.bool x24) (fun _ => by kernel_rfl) (fun _ _ h h' => h.pure h') (fun wq hq => retE (g := (fun r : Bool => (.bool r : Value))) hx25 (span_work_below_any a0 a1.Lo wq  ⟨(by omega), (by omega), (by omega), (by omega), (by omega), (by omega)⟩ (by omega) )) ?_
 refine WQ.load (dst := some 9) (t := 79) (o := 0) (fun _ hq => hb23.pure hq) (by kernel_rfl) (.agg #[.int .u64 a0.a.Lo, .int .u64 a0.a.Hi, .int .u64 a0.b.Lo, .int .u64 a0.b.Hi, .bool a0.narrow, .int .u64 a0.most, .int .u64 a0.size]) (by kernel_rfl) ?_
 refine WQ.val (dst := some 10) (pt g12 1) (fun _ => by kernel_rfl) ?_
 refine WQ.load (dst := some 11) (t := 23) (o := 1) (fun _ hq => hb15.pure hq) (by kernel_rfl) (.int .u64 a1.Hi) (by kernel_rfl) ?_
 obtain ⟨x27, hx28⟩ : ∃ x, span_work_below a0 a1.Hi = x := ⟨_, rfl⟩
 have hs29 := letS hx28 hs26
 refine WQ.call (dst := some 12) (.bool x27) (fun _ => by kernel_rfl) (fun _ _ h h' => h.pure h') (fun wq hq => retE (g := (fun r : Bool => (.bool r : Value))) hx28 (span_work_below_any a0 a1.Hi wq  ⟨(by omega), (by omega), (by omega), (by omega), (by omega), (by omega)⟩ (by omega) )) ?_
 refine WQ.val (dst := some 13) (.bool (x24 != x27)) (fun _ => by kernel_rfl) ?_
 refine WQ.val (dst := some 4) (.bool (x24 != x27)) (fun _ => by kernel_rfl) ?_
 refine WQ.fin (by kernel_rfl) ?_
 intro w30 hc31
 have hz33 := hc31.size
 have hC32 := hC19.pure hc31
 refine go hK22 ?_
 refine CW.ret ?_
 exact retV (.bool (x24 != x27)) (by kernel_rfl) (⟨hC32, (congrArg (fun r : Bool => (.bool r : Value)) hs29).symm⟩)
end Go.V
