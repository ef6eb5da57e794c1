import Derived.Test.YtjiagljaipadmaaProg
import Derived.Test.YtjiagljaipadmaaMp
namespace Go.V
open Go.RowKit Go.Proofs
structure TSpan where
  Lo : Int
  Hi : Int
deriving Inhabited, DecidableEq

def span_Of (a0 : Int)  : TSpan := (⟨a0, a0⟩ : TSpan)

theorem span_Of_ok (a0 : Int)  (_h_a0 : (0 ≤ a0 ∧ a0 ≤ 18446744073709551615))  : (0 ≤ (span_Of a0).Lo ∧ (span_Of a0).Lo ≤ 18446744073709551615) ∧ (0 ≤ (span_Of a0).Hi ∧ (span_Of a0).Hi ≤ 18446744073709551615) := by
 rw [span_Of.eq_1]
 exact (by exact (show (0 ≤ a0 ∧ a0 ≤ 18446744073709551615) ∧ (0 ≤ a0 ∧ a0 ≤ 18446744073709551615) from ⟨(by omega), (by omega)⟩))

theorem span_Of_any (a0 : Int)   (w : World)  (_h_a0 : (0 ≤ a0 ∧ a0 ≤ 18446744073709551615))  : Calls Try.prog 30 #[.int .u64 a0] w (RetV w (.agg #[.int .u64 (span_Of a0).Lo, .int .u64 (span_Of a0).Hi])) := by
 have hs := span_Of.eq_1 a0
 refine calls_of_CW Try.func30 rfl (n := 6) Try.ntmps30 (by kernel_rfl) [0] (F := [(0, .int .u64 a0)]) (by kernel_rfl) ?_
 refine CW.seq fun K1 hK1 => ?_
 refine CW.region ?_
 refine WR.alloc (dst := some 2) (e := 25) (by kernel_rfl) #[.int .u64 0, .int .u64 0] (by kernel_rfl) ?_
 intro g2 w3 hN4
 have hf6 : w.heap.size ≤ g2 := hN4.fresh
 have hfr8 := hN4.fresh
 have hc7 := hN4.chg
 have hz10 := hc7.size
 have hC9 := (Chg.refl [] w).pure hc7
 have hb5 := hN4.blk
 have hg11 := hb5.lt
 refine WR.fin (by kernel_rfl) ?_
 refine go hK1 ?_
 refine CW.seq fun K12 hK12 => ?_
 refine CW.region ?_
 refine WR.batch 3 [(2, pt g2 0), (5, .agg #[.int .u64 a0, .int .u64 a0])] (by kernel_rfl) ?_
 refine WR.store (t := 25) (o := 0) (v := .agg #[.int .u64 a0, .int .u64 a0]) hb5 (by kernel_rfl) #[.int .u64 a0, .int .u64 a0] (by kernel_rfl) ?_
 intro w13 hb14 hc15
 have hz17 := hc15.size
 have hC16 := hC9.step1 hc15 (by omega)
 refine WR.fin (by kernel_rfl) ?_
 refine go hK12 ?_
 refine CW.ret ?_
 exact retC [.agg #[.int .u64 a0, .int .u64 a0]] (.agg #[.int .u64 a0, .int .u64 a0]) rfl ⟨resCell hb14 rfl (by kernel_rfl), trivial⟩ (⟨hC16, (congrArg (fun r : TSpan => (.agg #[.int .u64 r.Lo, .int .u64 r.Hi] : Value)) hs).symm⟩)

def span_All (a0 : Bool)  : TSpan := (if a0 then (⟨(0 : Int), (4294967295 : Int)⟩ : TSpan) else (⟨(0 : Int), (18446744073709551615 : Int)⟩ : TSpan))

theorem span_All_ok (a0 : Bool)    : (0 ≤ (span_All a0).Lo ∧ (span_All a0).Lo ≤ 18446744073709551615) ∧ (0 ≤ (span_All a0).Hi ∧ (span_All a0).Hi ≤ 18446744073709551615) := by
 rw [span_All.eq_1]
 refine iteR (p := fun r : TSpan => (0 ≤ r.Lo ∧ r.Lo ≤ 18446744073709551615) ∧ (0 ≤ r.Hi ∧ r.Hi ≤ 18446744073709551615)) (fun hi1001 => ?_) (fun hi1001 => ?_)
 ·
  exact (by exact (show (0 ≤ (0 : Int) ∧ (0 : Int) ≤ 18446744073709551615) ∧ (0 ≤ (4294967295 : Int) ∧ (4294967295 : Int) ≤ 18446744073709551615) from ⟨(by omega), (by omega)⟩))
 exact (by exact (show (0 ≤ (0 : Int) ∧ (0 : Int) ≤ 18446744073709551615) ∧ (0 ≤ (18446744073709551615 : Int) ∧ (18446744073709551615 : Int) ≤ 18446744073709551615) from ⟨(by omega), (by omega)⟩))

theorem span_All_any (a0 : Bool)   (w : World)    : Calls Try.prog 32 #[.bool a0] w (RetV w (.agg #[.int .u64 (span_All a0).Lo, .int .u64 (span_All a0).Hi])) := by
 have hs := span_All.eq_1 a0
 refine calls_of_CW Try.func32 rfl (n := 6) Try.ntmps32 (by kernel_rfl) [0] (F := [(0, .bool a0)]) (by kernel_rfl) ?_
 refine CW.seq fun K1 hK1 => ?_
 refine CW.region ?_
 refine WR.alloc (dst := some 2) (e := 25) (by kernel_rfl) #[.int .u64 0, .int .u64 0] (by kernel_rfl) ?_
 intro g2 w3 hN4
 have hf6 : w.heap.size ≤ g2 := hN4.fresh
 have hfr8 := hN4.fresh
 have hc7 := hN4.chg
 have hz10 := hc7.size
 have hC9 := (Chg.refl [] w).pure hc7
 have hb5 := hN4.blk
 have hg11 := hb5.lt
 refine WR.fin (by kernel_rfl) ?_
 refine go hK1 ?_
 refine CW.seq fun K12 hK12 => ?_
 refine CW.seq fun K13 hK13 => ?_
 refine CW.region ?_
 refine WR.batch 1 [(2, pt g2 0), (3, .bool a0)] (by kernel_rfl) ?_
 refine WR.fin (by kernel_rfl) ?_
 refine go hK13 ?_
 refine CW.cond (a0) (by kernel_rfl) (fun ht14 => ?_) (fun ht14 => ?_)
 ·
  have hs15 := ifT ht14 hs
  refine CW.seq fun K16 hK16 => ?_
  refine CW.region ?_
  refine WR.batch 1 [(2, pt g2 0), (4, .agg #[.int .u64 0, .int .u64 4294967295])] (by kernel_rfl) ?_
  refine WR.store (t := 25) (o := 0) (v := .agg #[.int .u64 0, .int .u64 4294967295]) hb5 (by kernel_rfl) #[.int .u64 0, .int .u64 4294967295] (by kernel_rfl) ?_
  intro w17 hb18 hc19
  have hz21 := hc19.size
  have hC20 := hC9.step1 hc19 (by omega)
  refine WR.fin (by kernel_rfl) ?_
  refine go hK16 ?_
  refine CW.ret ?_
  exact retC [.agg #[.int .u64 0, .int .u64 4294967295]] (.agg #[.int .u64 0, .int .u64 4294967295]) rfl ⟨resCell hb18 rfl (by kernel_rfl), trivial⟩ (⟨hC20, (congrArg (fun r : TSpan => (.agg #[.int .u64 r.Lo, .int .u64 r.Hi] : Value)) hs15).symm⟩)
 have hs22 := ifF ht14 hs
 refine CW.skip ?_
 refine go hK12 ?_
 refine CW.seq fun K23 hK23 => ?_
 refine CW.region ?_
 refine WR.batch 1 [(2, pt g2 0), (5, .agg #[.int .u64 0, .int .u64 18446744073709551615])] (by kernel_rfl) ?_
 refine WR.store (t := 25) (o := 0) (v := .agg #[.int .u64 0, .int .u64 18446744073709551615]) hb5 (by kernel_rfl) #[.int .u64 0, .int .u64 18446744073709551615] (by kernel_rfl) ?_
 intro w24 hb25 hc26
 have hz28 := hc26.size
 have hC27 := hC9.step1 hc26 (by omega)
 refine WR.fin (by kernel_rfl) ?_
 refine go hK23 ?_
 refine CW.ret ?_
 exact retC [.agg #[.int .u64 0, .int .u64 18446744073709551615]] (.agg #[.int .u64 0, .int .u64 18446744073709551615]) rfl ⟨resCell hb25 rfl (by kernel_rfl), trivial⟩ (⟨hC27, (congrArg (fun r : TSpan => (.agg #[.int .u64 r.Lo, .int .u64 r.Hi] : Value)) hs22).symm⟩)

def span_Right (a0 : TSpan)  : Bool := decide (a0.Lo ≤ a0.Hi)

theorem span_Right_any (a0 : TSpan)   (w : World)  (_h_a0 : (0 ≤ a0.Lo ∧ a0.Lo ≤ 18446744073709551615) ∧ (0 ≤ a0.Hi ∧ a0.Hi ≤ 18446744073709551615))  : Calls Try.prog 28 #[.agg #[.int .u64 a0.Lo, .int .u64 a0.Hi]] w (RetV w (.bool (span_Right a0))) := by
 have hs := span_Right.eq_1 a0
 refine calls_of_CW Try.func28 rfl (n := 8) Try.ntmps28 (by kernel_rfl) [0] (F := [(0, .agg #[.int .u64 a0.Lo, .int .u64 a0.Hi])]) (by kernel_rfl) ?_
 refine CW.seq fun K1 hK1 => ?_
 refine CW.region ?_
 refine WR.box (dst := some 1) (e := 25) (v := .agg #[.int .u64 a0.Lo, .int .u64 a0.Hi]) (by kernel_rfl) #[.int .u64 a0.Lo, .int .u64 a0.Hi] (by kernel_rfl) ?_
 intro g2 w3 hN4
 have hf6 : w.heap.size ≤ g2 := hN4.fresh
 have hfr8 := hN4.fresh
 have hc7 := hN4.chg
 have hz10 := hc7.size
 have hC9 := (Chg.refl [] w).pure hc7
 have hb5 := hN4.blk
 have hg11 := hb5.lt
 refine WR.batch 1 [(1, pt g2 0)] (by kernel_rfl) ?_
 refine WR.fin (by kernel_rfl) ?_
 refine go hK1 ?_
 refine CW.seq fun K12 hK12 => ?_
 refine CW.region ?_
 refine WR.batch 1 [(1, pt g2 0), (3, pt g2 0)] (by kernel_rfl) ?_
 refine WR.load (dst := some 4) (t := 23) (o := 0) hb5 (by kernel_rfl) (.int .u64 a0.Lo) (by kernel_rfl) ?_
 refine WR.batch 1 [(4, .int .u64 a0.Lo), (5, pt g2 1)] (by kernel_rfl) ?_
 refine WR.load (dst := some 6) (t := 23) (o := 1) hb5 (by kernel_rfl) (.int .u64 a0.Hi) (by kernel_rfl) ?_
 refine WR.batch 2 [(2, .bool (decide (a0.Lo ≤ a0.Hi)))] (by kernel_rfl) ?_
 refine WR.fin (by kernel_rfl) ?_
 refine go hK12 ?_
 refine CW.ret ?_
 exact retV (.bool (decide (a0.Lo ≤ a0.Hi))) (by kernel_rfl) (⟨hC9, (congrArg (fun r : Bool => (.bool r : Value)) hs).symm⟩)

def span_Has (a0 : TSpan) (a1 : Int)  : Bool := ((decide (a0.Lo ≤ a1)) && (decide (a1 ≤ a0.Hi)))

theorem span_Has_any (a0 : TSpan) (a1 : Int)   (w : World)  (_h_a0 : (0 ≤ a0.Lo ∧ a0.Lo ≤ 18446744073709551615) ∧ (0 ≤ a0.Hi ∧ a0.Hi ≤ 18446744073709551615)) (_h_a1 : (0 ≤ a1 ∧ a1 ≤ 18446744073709551615))  : Calls Try.prog 26 #[.agg #[.int .u64 a0.Lo, .int .u64 a0.Hi], .int .u64 a1] w (RetV w (.bool (span_Has a0 a1))) := by
 have hs := span_Has.eq_1 a0 a1
 refine calls_of_CW Try.func26 rfl (n := 15) Try.ntmps26 (by kernel_rfl) [0, 1] (F := [(0, .agg #[.int .u64 a0.Lo, .int .u64 a0.Hi]), (1, .int .u64 a1)]) (by kernel_rfl) ?_
 refine CW.seq fun K1 hK1 => ?_
 refine CW.region ?_
 refine WR.box (dst := some 2) (e := 25) (v := .agg #[.int .u64 a0.Lo, .int .u64 a0.Hi]) (by kernel_rfl) #[.int .u64 a0.Lo, .int .u64 a0.Hi] (by kernel_rfl) ?_
 intro g2 w3 hN4
 have hf6 : w.heap.size ≤ g2 := hN4.fresh
 have hfr8 := hN4.fresh
 have hc7 := hN4.chg
 have hz10 := hc7.size
 have hC9 := (Chg.refl [] w).pure hc7
 have hb5 := hN4.blk
 have hg11 := hb5.lt
 refine WR.batch 1 [(1, .int .u64 a1), (2, pt g2 0)] (by kernel_rfl) ?_
 refine WR.fin (by kernel_rfl) ?_
 refine go hK1 ?_
 refine CW.seq fun K12 hK12 => ?_
 refine CW.region ?_
 refine WR.batch 1 [(1, .int .u64 a1), (2, pt g2 0), (5, pt g2 0)] (by kernel_rfl) ?_
 refine WR.load (dst := some 6) (t := 23) (o := 0) hb5 (by kernel_rfl) (.int .u64 a0.Lo) (by kernel_rfl) ?_
 refine WR.batch 3 [(1, .int .u64 a1), (2, pt g2 0), (9, .bool (decide (a0.Lo ≤ a1)))] (by kernel_rfl) ?_
 refine WR.mergeW 10 [(14, .bool ((decide (a0.Lo ≤ a1)) && (decide (a1 ≤ a0.Hi))))] (fun w' => Chg [] w3 w') (fun Q' => ?_) ?_
 ·
  cases hg13 : decide (a0.Lo ≤ a1)
  ·
   replace hg13 : ¬ (a0.Lo ≤ a1) := (of_decide_eq_false hg13)
   intro hM14
   refine WR.batch 5 [(14, .bool false)] (by kernel_rfl) ?_
   exact WR.keep [14] (by kernel_rfl) (hM14 _ (Chg.refl [] w3))
  ·
   replace hg13 : a0.Lo ≤ a1 := (of_decide_eq_true hg13)
   intro hM14
   refine WR.batch 2 [(9, .bool true), (10, .int .u64 a1), (11, pt g2 1)] (by kernel_rfl) ?_
   refine WR.load (dst := some 12) (t := 23) (o := 1) hb5 (by kernel_rfl) (.int .u64 a0.Hi) (by kernel_rfl) ?_
   refine WR.batch 2 [(14, .bool (decide (a1 ≤ a0.Hi)))] (by kernel_rfl) ?_
   exact WR.keep [14] (by kernel_rfl) (hM14 _ (Chg.refl [] w3))
 intro w15 hc16
 have hz18 := hc16.size
 have hC17 := hC9.pure hc16
 have hb19 := hb5.pure hc16
 refine WR.batch 1 [(4, .bool ((decide (a0.Lo ≤ a1)) && (decide (a1 ≤ a0.Hi))))] (by kernel_rfl) ?_
 refine WR.fin (by kernel_rfl) ?_
 refine go hK12 ?_
 refine CW.ret ?_
 exact retV (.bool ((decide (a0.Lo ≤ a1)) && (decide (a1 ≤ a0.Hi)))) (by kernel_rfl) (⟨hC17, (congrArg (fun r : Bool => (.bool r : Value)) hs).symm⟩)

def span_Within (a0 : TSpan) (a1 : TSpan)  : Bool := ((decide (a1.Lo ≤ a0.Lo)) && (decide (a0.Hi ≤ a1.Hi)))

theorem span_Within_any (a0 : TSpan) (a1 : TSpan)   (w : World)  (_h_a0 : (0 ≤ a0.Lo ∧ a0.Lo ≤ 18446744073709551615) ∧ (0 ≤ a0.Hi ∧ a0.Hi ≤ 18446744073709551615)) (_h_a1 : (0 ≤ a1.Lo ∧ a1.Lo ≤ 18446744073709551615) ∧ (0 ≤ a1.Hi ∧ a1.Hi ≤ 18446744073709551615))  : Calls Try.prog 18 #[.agg #[.int .u64 a0.Lo, .int .u64 a0.Hi], .agg #[.int .u64 a1.Lo, .int .u64 a1.Hi]] w (RetV w (.bool (span_Within a0 a1))) := by
 have hs := span_Within.eq_1 a0 a1
 refine calls_of_CW Try.func18 rfl (n := 17) Try.ntmps18 (by kernel_rfl) [0, 1] (F := [(0, .agg #[.int .u64 a0.Lo, .int .u64 a0.Hi]), (1, .agg #[.int .u64 a1.Lo, .int .u64 a1.Hi])]) (by kernel_rfl) ?_
 refine CW.seq fun K1 hK1 => ?_
 refine CW.region ?_
 refine WR.box (dst := some 2) (e := 25) (v := .agg #[.int .u64 a0.Lo, .int .u64 a0.Hi]) (by kernel_rfl) #[.int .u64 a0.Lo, .int .u64 a0.Hi] (by kernel_rfl) ?_
 intro g2 w3 hN4
 have hf6 : w.heap.size ≤ g2 := hN4.fresh
 have hfr8 := hN4.fresh
 have hc7 := hN4.chg
 have hz10 := hc7.size
 have hC9 := (Chg.refl [] w).pure hc7
 have hb5 := hN4.blk
 have hg11 := hb5.lt
 refine WR.box (dst := some 3) (e := 25) (v := .agg #[.int .u64 a1.Lo, .int .u64 a1.Hi]) (by kernel_rfl) #[.int .u64 a1.Lo, .int .u64 a1.Hi] (by kernel_rfl) ?_
 intro g12 w13 hN14
 have hl17 : g2 < g12 := Nat.lt_of_lt_of_le hb5.lt hN14.fresh
 have hf16 : w.heap.size ≤ g12 := Nat.le_trans hC9.size hN14.fresh
 have hfr19 := hN14.fresh
 have hc18 := hN14.chg
 have hz21 := hc18.size
 have hC20 := hC9.pure hc18
 have hb22 := hb5.pure hc18
 have hb15 := hN14.blk
 have hg23 := hb15.lt
 refine WR.batch 1 [(2, pt g2 0), (3, pt g12 0)] (by kernel_rfl) ?_
 refine WR.fin (by kernel_rfl) ?_
 refine go hK1 ?_
 refine CW.seq fun K24 hK24 => ?_
 refine CW.region ?_
 refine WR.batch 1 [(2, pt g2 0), (3, pt g12 0), (5, pt g12 0)] (by kernel_rfl) ?_
 refine WR.load (dst := some 6) (t := 23) (o := 0) hb15 (by kernel_rfl) (.int .u64 a1.Lo) (by kernel_rfl) ?_
 refine WR.batch 1 [(2, pt g2 0), (3, pt g12 0), (6, .int .u64 a1.Lo), (7, pt g2 0)] (by kernel_rfl) ?_
 refine WR.load (dst := some 8) (t := 23) (o := 0) hb22 (by kernel_rfl) (.int .u64 a0.Lo) (by kernel_rfl) ?_
 refine WR.batch 2 [(2, pt g2 0), (3, pt g12 0), (10, .bool (decide (a1.Lo ≤ a0.Lo)))] (by kernel_rfl) ?_
 refine WR.mergeW 12 [(16, .bool ((decide (a1.Lo ≤ a0.Lo)) && (decide (a0.Hi ≤ a1.Hi))))] (fun w' => Chg [] w13 w') (fun Q' => ?_) ?_
 ·
  cases hg25 : decide (a1.Lo ≤ a0.Lo)
  ·
   replace hg25 : ¬ (a1.Lo ≤ a0.Lo) := (of_decide_eq_false hg25)
   intro hM26
   refine WR.batch 6 [(16, .bool false)] (by kernel_rfl) ?_
   exact WR.keep [16] (by kernel_rfl) (hM26 _ (Chg.refl [] w13))
  ·
   replace hg25 : a1.Lo ≤ a0.Lo := (of_decide_eq_true hg25)
   intro hM26
   refine WR.batch 1 [(3, pt g12 0), (10, .bool true), (11, pt g2 1)] (by kernel_rfl) ?_
   refine WR.load (dst := some 12) (t := 23) (o := 1) hb22 (by kernel_rfl) (.int .u64 a0.Hi) (by kernel_rfl) ?_
   refine WR.batch 1 [(10, .bool true), (12, .int .u64 a0.Hi), (13, pt g12 1)] (by kernel_rfl) ?_
   refine WR.load (dst := some 14) (t := 23) (o := 1) hb15 (by kernel_rfl) (.int .u64 a1.Hi) (by kernel_rfl) ?_
   refine WR.batch 2 [(16, .bool (decide (a0.Hi ≤ a1.Hi)))] (by kernel_rfl) ?_
   exact WR.keep [16] (by kernel_rfl) (hM26 _ (Chg.refl [] w13))
 intro w27 hc28
 have hz30 := hc28.size
 have hC29 := hC20.pure hc28
 have hb31 := hb22.pure hc28
 have hb32 := hb15.pure hc28
 refine WR.batch 1 [(4, .bool ((decide (a1.Lo ≤ a0.Lo)) && (decide (a0.Hi ≤ a1.Hi))))] (by kernel_rfl) ?_
 refine WR.fin (by kernel_rfl) ?_
 refine go hK24 ?_
 refine CW.ret ?_
 exact retV (.bool ((decide (a1.Lo ≤ a0.Lo)) && (decide (a0.Hi ≤ a1.Hi)))) (by kernel_rfl) (⟨hC29, (congrArg (fun r : Bool => (.bool r : Value)) hs).symm⟩)

def span_Join (a0 : TSpan) (a1 : TSpan)  : TSpan := (⟨(gMin a0.Lo a1.Lo), (gMax a0.Hi a1.Hi)⟩ : TSpan)

theorem span_Join_ok (a0 : TSpan) (a1 : TSpan)  (_h_a0 : (0 ≤ a0.Lo ∧ a0.Lo ≤ 18446744073709551615) ∧ (0 ≤ a0.Hi ∧ a0.Hi ≤ 18446744073709551615)) (_h_a1 : (0 ≤ a1.Lo ∧ a1.Lo ≤ 18446744073709551615) ∧ (0 ≤ a1.Hi ∧ a1.Hi ≤ 18446744073709551615))  : (0 ≤ (span_Join a0 a1).Lo ∧ (span_Join a0 a1).Lo ≤ 18446744073709551615) ∧ (0 ≤ (span_Join a0 a1).Hi ∧ (span_Join a0 a1).Hi ≤ 18446744073709551615) := by
 rw [span_Join.eq_1]
 exact (by exact (show (0 ≤ (gMin a0.Lo a1.Lo) ∧ (gMin a0.Lo a1.Lo) ≤ 18446744073709551615) ∧ (0 ≤ (gMax a0.Hi a1.Hi) ∧ (gMax a0.Hi a1.Hi) ≤ 18446744073709551615) from ⟨(gMin_rng (by omega) (by omega)), (gMax_rng (by omega) (by omega))⟩))

theorem span_Join_any (a0 : TSpan) (a1 : TSpan)   (w : World)  (_h_a0 : (0 ≤ a0.Lo ∧ a0.Lo ≤ 18446744073709551615) ∧ (0 ≤ a0.Hi ∧ a0.Hi ≤ 18446744073709551615)) (_h_a1 : (0 ≤ a1.Lo ∧ a1.Lo ≤ 18446744073709551615) ∧ (0 ≤ a1.Hi ∧ a1.Hi ≤ 18446744073709551615))  : Calls Try.prog 23 #[.agg #[.int .u64 a0.Lo, .int .u64 a0.Hi], .agg #[.int .u64 a1.Lo, .int .u64 a1.Hi]] w (RetV w (.agg #[.int .u64 (span_Join a0 a1).Lo, .int .u64 (span_Join a0 a1).Hi])) := by
 have hs := span_Join.eq_1 a0 a1
 refine calls_of_CW Try.func23 rfl (n := 16) Try.ntmps23 (by kernel_rfl) [0, 1] (F := [(0, .agg #[.int .u64 a0.Lo, .int .u64 a0.Hi]), (1, .agg #[.int .u64 a1.Lo, .int .u64 a1.Hi])]) (by kernel_rfl) ?_
 refine CW.seq fun K1 hK1 => ?_
 refine CW.region ?_
 refine WR.box (dst := some 2) (e := 25) (v := .agg #[.int .u64 a0.Lo, .int .u64 a0.Hi]) (by kernel_rfl) #[.int .u64 a0.Lo, .int .u64 a0.Hi] (by kernel_rfl) ?_
 intro g2 w3 hN4
 have hf6 : w.heap.size ≤ g2 := hN4.fresh
 have hfr8 := hN4.fresh
 have hc7 := hN4.chg
 have hz10 := hc7.size
 have hC9 := (Chg.refl [] w).pure hc7
 have hb5 := hN4.blk
 have hg11 := hb5.lt
 refine WR.box (dst := some 3) (e := 25) (v := .agg #[.int .u64 a1.Lo, .int .u64 a1.Hi]) (by kernel_rfl) #[.int .u64 a1.Lo, .int .u64 a1.Hi] (by kernel_rfl) ?_
 intro g12 w13 hN14
 have hl17 : g2 < g12 := Nat.lt_of_lt_of_le hb5.lt hN14.fresh
 have hf16 : w.heap.size ≤ g12 := Nat.le_trans hC9.size hN14.fresh
 have hfr19 := hN14.fresh
 have hc18 := hN14.chg
 have hz21 := hc18.size
 have hC20 := hC9.pure hc18
 have hb22 := hb5.pure hc18
 have hb15 := hN14.blk
 have hg23 := hb15.lt
 refine WR.alloc (dst := some 4) (e := 25) (by kernel_rfl) #[.int .u64 0, .int .u64 0] (by kernel_rfl) ?_
 intro g24 w25 hN26
 have hl29 : g2 < g24 := Nat.lt_of_lt_of_le hb22.lt hN26.fresh
 have hl30 : g12 < g24 := Nat.lt_of_lt_of_le hb15.lt hN26.fresh
 have hf28 : w.heap.size ≤ g24 := Nat.le_trans hC20.size hN26.fresh
 have hfr32 := hN26.fresh
 have hc31 := hN26.chg
 have hz34 := hc31.size
 have hC33 := hC20.pure hc31
 have hb35 := hb22.pure hc31
 have hb36 := hb15.pure hc31
 have hb27 := hN26.blk
 have hg37 := hb27.lt
 refine WR.fin (by kernel_rfl) ?_
 refine go hK1 ?_
 refine CW.seq fun K38 hK38 => ?_
 refine CW.region ?_
 refine WR.batch 1 [(2, pt g2 0), (3, pt g12 0), (4, pt g24 0), (5, pt g2 0)] (by kernel_rfl) ?_
 refine WR.load (dst := some 6) (t := 23) (o := 0) hb35 (by kernel_rfl) (.int .u64 a0.Lo) (by kernel_rfl) ?_
 refine WR.batch 1 [(2, pt g2 0), (3, pt g12 0), (4, pt g24 0), (6, .int .u64 a0.Lo), (7, pt g12 0)] (by kernel_rfl) ?_
 refine WR.load (dst := some 8) (t := 23) (o := 0) hb36 (by kernel_rfl) (.int .u64 a1.Lo) (by kernel_rfl) ?_
 refine WR.batch 2 [(3, pt g12 0), (4, pt g24 0), (9, .int .u64 (gMin a0.Lo a1.Lo)), (10, pt g2 1)] (by kernel_rfl) ?_
 refine WR.load (dst := some 11) (t := 23) (o := 1) hb35 (by kernel_rfl) (.int .u64 a0.Hi) (by kernel_rfl) ?_
 refine WR.batch 1 [(4, pt g24 0), (9, .int .u64 (gMin a0.Lo a1.Lo)), (11, .int .u64 a0.Hi), (12, pt g12 1)] (by kernel_rfl) ?_
 refine WR.load (dst := some 13) (t := 23) (o := 1) hb36 (by kernel_rfl) (.int .u64 a1.Hi) (by kernel_rfl) ?_
 refine WR.batch 2 [(4, pt g24 0), (15, .agg #[.int .u64 (gMin a0.Lo a1.Lo), .int .u64 (gMax a0.Hi a1.Hi)])] (by kernel_rfl) ?_
 refine WR.store (t := 25) (o := 0) (v := .agg #[.int .u64 (gMin a0.Lo a1.Lo), .int .u64 (gMax a0.Hi a1.Hi)]) hb27 (by kernel_rfl) #[.int .u64 (gMin a0.Lo a1.Lo), .int .u64 (gMax a0.Hi a1.Hi)] (by kernel_rfl) ?_
 intro w39 hb40 hc41
 have hz43 := hc41.size
 have hC42 := hC33.step1 hc41 (by omega)
 have hb44 := hb35.chg1 hc41 (by omega)
 have hb45 := hb36.chg1 hc41 (by omega)
 refine WR.fin (by kernel_rfl) ?_
 refine go hK38 ?_
 refine CW.ret ?_
 exact retC [.agg #[.int .u64 (gMin a0.Lo a1.Lo), .int .u64 (gMax a0.Hi a1.Hi)]] (.agg #[.int .u64 (gMin a0.Lo a1.Lo), .int .u64 (gMax a0.Hi a1.Hi)]) rfl ⟨resCell hb40 rfl (by kernel_rfl), trivial⟩ (⟨hC42, (congrArg (fun r : TSpan => (.agg #[.int .u64 r.Lo, .int .u64 r.Hi] : Value)) hs).symm⟩)

def span_Meet (a0 : TSpan) (a1 : TSpan)  : (TSpan × Bool) := (letF (span_Right (⟨(gMax a0.Lo a1.Lo), (gMin a0.Hi a1.Hi)⟩ : TSpan)) fun x65 => (if (!x65) then ((⟨(0 : Int), (0 : Int)⟩ : TSpan), false) else ((⟨(gMax a0.Lo a1.Lo), (gMin a0.Hi a1.Hi)⟩ : TSpan), true)))

theorem span_Meet_ok (a0 : TSpan) (a1 : TSpan)  (_h_a0 : (0 ≤ a0.Lo ∧ a0.Lo ≤ 18446744073709551615) ∧ (0 ≤ a0.Hi ∧ a0.Hi ≤ 18446744073709551615)) (_h_a1 : (0 ≤ a1.Lo ∧ a1.Lo ≤ 18446744073709551615) ∧ (0 ≤ a1.Hi ∧ a1.Hi ≤ 18446744073709551615))  : (0 ≤ (span_Meet a0 a1).1.Lo ∧ (span_Meet a0 a1).1.Lo ≤ 18446744073709551615) ∧ (0 ≤ (span_Meet a0 a1).1.Hi ∧ (span_Meet a0 a1).1.Hi ≤ 18446744073709551615) := by
 rw [span_Meet.eq_1]
 refine letR (p := fun r : (TSpan × Bool) => (0 ≤ r.1.Lo ∧ r.1.Lo ≤ 18446744073709551615) ∧ (0 ≤ r.1.Hi ∧ r.1.Hi ≤ 18446744073709551615)) fun x65 _ => ?_
 refine iteR (p := fun r : (TSpan × Bool) => (0 ≤ r.1.Lo ∧ r.1.Lo ≤ 18446744073709551615) ∧ (0 ≤ r.1.Hi ∧ r.1.Hi ≤ 18446744073709551615)) (fun hi1001 => ?_) (fun hi1001 => ?_)
 ·
  replace hi1001 : x65 = false := (bNotT hi1001)
  exact (by exact (show (0 ≤ (0 : Int) ∧ (0 : Int) ≤ 18446744073709551615) ∧ (0 ≤ (0 : Int) ∧ (0 : Int) ≤ 18446744073709551615) from ⟨(by omega), (by omega)⟩))
 replace hi1001 : x65 = true := (bNotF hi1001)
 exact (by exact (show (0 ≤ (gMax a0.Lo a1.Lo) ∧ (gMax a0.Lo a1.Lo) ≤ 18446744073709551615) ∧ (0 ≤ (gMin a0.Hi a1.Hi) ∧ (gMin a0.Hi a1.Hi) ≤ 18446744073709551615) from ⟨(gMax_rng (by omega) (by omega)), (gMin_rng (by omega) (by omega))⟩))

set_option maxHeartbeats 4000000 in
theorem span_Meet_any (a0 : TSpan) (a1 : TSpan)   (w : World)  (_h_a0 : (0 ≤ a0.Lo ∧ a0.Lo ≤ 18446744073709551615) ∧ (0 ≤ a0.Hi ∧ a0.Hi ≤ 18446744073709551615)) (_h_a1 : (0 ≤ a1.Lo ∧ a1.Lo ≤ 18446744073709551615) ∧ (0 ≤ a1.Hi ∧ a1.Hi ≤ 18446744073709551615))  : Calls Try.prog 21 #[.agg #[.int .u64 a0.Lo, .int .u64 a0.Hi], .agg #[.int .u64 a1.Lo, .int .u64 a1.Hi]] w (RetV w (.tuple #[.agg #[.int .u64 (span_Meet a0 a1).1.Lo, .int .u64 (span_Meet a0 a1).1.Hi], .bool (span_Meet a0 a1).2])) := by
 have hs := span_Meet.eq_1 a0 a1
 refine calls_of_CW Try.func21 rfl (n := 23) Try.ntmps21 (by kernel_rfl) [0, 1] (F := [(0, .agg #[.int .u64 a0.Lo, .int .u64 a0.Hi]), (1, .agg #[.int .u64 a1.Lo, .int .u64 a1.Hi])]) (by kernel_rfl) ?_
 refine CW.seq fun K1 hK1 => ?_
 refine CW.region ?_
 refine WR.box (dst := some 2) (e := 25) (v := .agg #[.int .u64 a0.Lo, .int .u64 a0.Hi]) (by kernel_rfl) #[.int .u64 a0.Lo, .int .u64 a0.Hi] (by kernel_rfl) ?_
 intro g2 w3 hN4
 have hf6 : w.heap.size ≤ g2 := hN4.fresh
 have hfr8 := hN4.fresh
 have hc7 := hN4.chg
 have hz10 := hc7.size
 have hC9 := (Chg.refl [] w).pure hc7
 have hb5 := hN4.blk
 have hg11 := hb5.lt
 refine WR.box (dst := some 3) (e := 25) (v := .agg #[.int .u64 a1.Lo, .int .u64 a1.Hi]) (by kernel_rfl) #[.int .u64 a1.Lo, .int .u64 a1.Hi] (by kernel_rfl) ?_
 intro g12 w13 hN14
 have hl17 : g2 < g12 := Nat.lt_of_lt_of_le hb5.lt hN14.fresh
 have hf16 : w.heap.size ≤ g12 := Nat.le_trans hC9.size hN14.fresh
 have hfr19 := hN14.fresh
 have hc18 := hN14.chg
 have hz21 := hc18.size
 have hC20 := hC9.pure hc18
 have hb22 := hb5.pure hc18
 have hb15 := hN14.blk
 have hg23 := hb15.lt
 refine WR.alloc (dst := some 4) (e := 25) (by kernel_rfl) #[.int .u64 0, .int .u64 0] (by kernel_rfl) ?_
 intro g24 w25 hN26
 have hl29 : g2 < g24 := Nat.lt_of_lt_of_le hb22.lt hN26.fresh
 have hl30 : g12 < g24 := Nat.lt_of_lt_of_le hb15.lt hN26.fresh
 have hf28 : w.heap.size ≤ g24 := Nat.le_trans hC20.size hN26.fresh
 have hfr32 := hN26.fresh
 have hc31 := hN26.chg
 have hz34 := hc31.size
 have hC33 := hC20.pure hc31
 have hb35 := hb22.pure hc31
 have hb36 := hb15.pure hc31
 have hb27 := hN26.blk
 have hg37 := hb27.lt
 refine WR.batch 1 [(2, pt g2 0), (3, pt g12 0), (4, pt g24 0)] (by kernel_rfl) ?_
 refine WR.fin (by kernel_rfl) ?_
 refine go hK1 ?_
 refine CW.seq fun K38 hK38 => ?_
 refine CW.region ?_
 refine WR.batch 1 [(2, pt g2 0), (3, pt g12 0), (4, pt g24 0), (7, pt g2 0)] (by kernel_rfl) ?_
 refine WR.load (dst := some 8) (t := 23) (o := 0) hb35 (by kernel_rfl) (.int .u64 a0.Lo) (by kernel_rfl) ?_
 refine WR.batch 1 [(2, pt g2 0), (3, pt g12 0), (4, pt g24 0), (8, .int .u64 a0.Lo), (9, pt g12 0)] (by kernel_rfl) ?_
 refine WR.load (dst := some 10) (t := 23) (o := 0) hb36 (by kernel_rfl) (.int .u64 a1.Lo) (by kernel_rfl) ?_
 refine WR.batch 2 [(3, pt g12 0), (4, pt g24 0), (11, .int .u64 (gMax a0.Lo a1.Lo)), (12, pt g2 1)] (by kernel_rfl) ?_
 refine WR.load (dst := some 13) (t := 23) (o := 1) hb35 (by kernel_rfl) (.int .u64 a0.Hi) (by kernel_rfl) ?_
 refine WR.batch 1 [(4, pt g24 0), (11, .int .u64 (gMax a0.Lo a1.Lo)), (13, .int .u64 a0.Hi), (14, pt g12 1)] (by kernel_rfl) ?_
 refine WR.load (dst := some 15) (t := 23) (o := 1) hb36 (by kernel_rfl) (.int .u64 a1.Hi) (by kernel_rfl) ?_
 refine WR.batch 2 [(4, pt g24 0), (17, .agg #[.int .u64 (gMax a0.Lo a1.Lo), .int .u64 (gMin a0.Hi a1.Hi)])] (by kernel_rfl) ?_
 refine WR.alloc (dst := some 6) (e := 25) (by kernel_rfl) #[.int .u64 0, .int .u64 0] (by kernel_rfl) ?_
 intro g39 w40 hN41
 have hl44 : g2 < g39 := Nat.lt_of_lt_of_le hb35.lt hN41.fresh
 have hl45 : g12 < g39 := Nat.lt_of_lt_of_le hb36.lt hN41.fresh
 have hl46 : g24 < g39 := Nat.lt_of_lt_of_le hb27.lt hN41.fresh
 have hf43 : w.heap.size ≤ g39 := Nat.le_trans hC33.size hN41.fresh
 have hfr48 := hN41.fresh
 have hc47 := hN41.chg
 have hz50 := hc47.size
 have hC49 := hC33.pure hc47
 have hb51 := hb35.pure hc47
 have hb52 := hb36.pure hc47
 have hb53 := hb27.pure hc47
 have hb42 := hN41.blk
 have hg54 := hb42.lt
 refine WR.store (t := 25) (o := 0) (v := .agg #[.int .u64 (gMax a0.Lo a1.Lo), .int .u64 (gMin a0.Hi a1.Hi)]) hb42 (by kernel_rfl) #[.int .u64 (gMax a0.Lo a1.Lo), .int .u64 (gMin a0.Hi a1.Hi)] (by kernel_rfl) ?_
 intro w55 hb56 hc57
 have hz59 := hc57.size
 have hC58 := hC49.step1 hc57 (by omega)
 have hb60 := hb51.chg1 hc57 (by omega)
 have hb61 := hb52.chg1 hc57 (by omega)
 have hb62 := hb53.chg1 hc57 (by omega)
 refine WR.fin (by kernel_rfl) ?_
 refine go hK38 ?_
 refine CW.seq fun K63 hK63 => ?_
 refine CW.seq fun K64 hK64 => ?_
 refine CW.region ?_
 refine WR.load (dst := some 18) (t := 25) (o := 0) hb56 (by kernel_rfl) (.agg #[.int .u64 (gMax a0.Lo a1.Lo), .int .u64 (gMin a0.Hi a1.Hi)]) (by kernel_rfl) ?_
 obtain ⟨x65, hx66⟩ : ∃ x, span_Right (⟨(gMax a0.Lo a1.Lo), (gMin a0.Hi a1.Hi)⟩ : TSpan) = x := ⟨_, rfl⟩
 have hs67 := letS hx66 hs
 refine WR.call (dst := some 19) (by kernel_rfl) (retE (g := fun r : Bool => (.bool r : Value)) hx66 (span_Right_any (⟨(gMax a0.Lo a1.Lo), (gMin a0.Hi a1.Hi)⟩ : TSpan) w55  ⟨(gMax_rng (by omega) (by omega)), (gMin_rng (by omega) (by omega))⟩ )) ?_
 rintro _ w68 hc69 rfl
 have hz71 := hc69.size
 have hC70 := hC58.pure hc69
 have hb72 := hb60.pure hc69
 have hb73 := hb61.pure hc69
 have hb74 := hb62.pure hc69
 have hb75 := hb56.pure hc69
 refine WR.batch 1 [(4, pt g24 0), (6, pt g39 0), (20, .bool (!x65))] (by kernel_rfl) ?_
 refine WR.fin (by kernel_rfl) ?_
 refine go hK64 ?_
 refine CW.cond ((!x65)) (by kernel_rfl) (fun ht76 => ?_) (fun ht76 => ?_)
 ·
  have hs77 := ifT ht76 hs67
  replace ht76 : x65 = false := (bNotT ht76)
  refine CW.seq fun K78 hK78 => ?_
  refine CW.region ?_
  refine WR.batch 1 [(4, pt g24 0), (21, .agg #[.int .u64 0, .int .u64 0])] (by kernel_rfl) ?_
  refine WR.store (t := 25) (o := 0) (v := .agg #[.int .u64 0, .int .u64 0]) hb74 (by kernel_rfl) #[.int .u64 0, .int .u64 0] (by kernel_rfl) ?_
  intro w79 hb80 hc81
  have hz83 := hc81.size
  have hC82 := hC70.step1 hc81 (by omega)
  have hb84 := hb72.chg1 hc81 (by omega)
  have hb85 := hb73.chg1 hc81 (by omega)
  have hb86 := hb75.chg1 hc81 (by omega)
  refine WR.batch 1 [(4, pt g24 0), (5, .bool false)] (by kernel_rfl) ?_
  refine WR.fin (by kernel_rfl) ?_
  refine go hK78 ?_
  refine CW.ret ?_
  exact retC [.agg #[.int .u64 0, .int .u64 0], .bool false] (.tuple #[.agg #[.int .u64 0, .int .u64 0], .bool false]) rfl ⟨resCell hb80 rfl (by kernel_rfl), rfl, trivial⟩ (⟨hC82, (congrArg (fun r : (TSpan × Bool) => (.tuple #[.agg #[.int .u64 r.1.Lo, .int .u64 r.1.Hi], .bool r.2] : Value)) hs77).symm⟩)
 have hs87 := ifF ht76 hs67
 replace ht76 : x65 = true := (bNotF ht76)
 refine CW.skip ?_
 refine go hK63 ?_
 refine CW.seq fun K88 hK88 => ?_
 refine CW.region ?_
 refine WR.load (dst := some 22) (t := 25) (o := 0) hb75 (by kernel_rfl) (.agg #[.int .u64 (gMax a0.Lo a1.Lo), .int .u64 (gMin a0.Hi a1.Hi)]) (by kernel_rfl) ?_
 refine WR.store (t := 25) (o := 0) (v := .agg #[.int .u64 (gMax a0.Lo a1.Lo), .int .u64 (gMin a0.Hi a1.Hi)]) hb74 (by kernel_rfl) #[.int .u64 (gMax a0.Lo a1.Lo), .int .u64 (gMin a0.Hi a1.Hi)] (by kernel_rfl) ?_
 intro w89 hb90 hc91
 have hz93 := hc91.size
 have hC92 := hC70.step1 hc91 (by omega)
 have hb94 := hb72.chg1 hc91 (by omega)
 have hb95 := hb73.chg1 hc91 (by omega)
 have hb96 := hb75.chg1 hc91 (by omega)
 refine WR.batch 1 [(4, pt g24 0), (5, .bool true)] (by kernel_rfl) ?_
 refine WR.fin (by kernel_rfl) ?_
 refine go hK88 ?_
 refine CW.ret ?_
 exact retC [.agg #[.int .u64 (gMax a0.Lo a1.Lo), .int .u64 (gMin a0.Hi a1.Hi)], .bool true] (.tuple #[.agg #[.int .u64 (gMax a0.Lo a1.Lo), .int .u64 (gMin a0.Hi a1.Hi)], .bool true]) rfl ⟨resCell hb90 rfl (by kernel_rfl), rfl, trivial⟩ (⟨hC92, (congrArg (fun r : (TSpan × Bool) => (.tuple #[.agg #[.int .u64 r.1.Lo, .int .u64 r.1.Hi], .bool r.2] : Value)) hs87).symm⟩)

def span_must (a0 : Bool)  : Option Unit := (if (!a0) then none else some ())

theorem span_must_any (a0 : Bool)   (w : World)    : Calls Try.prog 126 #[.bool a0] w (RetP w (.iface 76 (.agg #[])) (((span_must a0)).map fun r : Unit => (.tuple #[] : Value))) := by
 have hs := span_must.eq_1 a0
 refine calls_of_CW Try.func126 rfl (n := 6) Try.ntmps126 (by kernel_rfl) [0] (F := [(0, .bool a0)]) (by kernel_rfl) ?_
 refine CW.seq fun K1 hK1 => ?_
 refine CW.region ?_
 refine WR.batch 2 [(3, .bool (!a0))] (by kernel_rfl) ?_
 refine WR.fin (by kernel_rfl) ?_
 refine go hK1 ?_
 refine CW.cond ((!a0)) (by kernel_rfl) (fun ht2 => ?_) (fun ht2 => ?_)
 ·
  have hs3 := ifT ht2 hs
  replace ht2 : a0 = false := (bNotT ht2)
  refine CW.region ?_
  refine WR.batch 2 [(5, .iface 76 (.agg #[]))] (by kernel_rfl) ?_
  refine WR.throwR (dst := none) (v := .iface 76 (.agg #[])) (w' := w) (by kernel_rfl) ?_
  exact panicV (P := Try.prog) (fn := Try.f126) (retP_pan hs3 (Chg.refl _ _))
 have hs4 := ifF ht2 hs
 replace ht2 : a0 = true := (bNotF ht2)
 refine CW.skip ?_
 exact endV (.tuple #[]) (by kernel_rfl) (retP_ret (g := (fun r : Unit => (.tuple #[] : Value))) hs4 rfl (Chg.refl _ _))

def span_cut (a0 : TSpan) (a1 : Bool)  : TSpan := (if (!a1) then a0 else (if ((sShr .u64 a0.Lo (32 : Int)) != (sShr .u64 a0.Hi (32 : Int))) then (letF (span_All true) fun x40 => x40) else (⟨(bAnd .u64 a0.Lo (4294967295 : Int)), (bAnd .u64 a0.Hi (4294967295 : Int))⟩ : TSpan)))

theorem span_cut_ok (a0 : TSpan) (a1 : Bool)  (_h_a0 : (0 ≤ a0.Lo ∧ a0.Lo ≤ 18446744073709551615) ∧ (0 ≤ a0.Hi ∧ a0.Hi ≤ 18446744073709551615))  : (0 ≤ (span_cut a0 a1).Lo ∧ (span_cut a0 a1).Lo ≤ 18446744073709551615) ∧ (0 ≤ (span_cut a0 a1).Hi ∧ (span_cut a0 a1).Hi ≤ 18446744073709551615) := by
 rw [span_cut.eq_1]
 refine iteR (p := fun r : TSpan => (0 ≤ r.Lo ∧ r.Lo ≤ 18446744073709551615) ∧ (0 ≤ r.Hi ∧ r.Hi ≤ 18446744073709551615)) (fun hi1001 => ?_) (fun hi1001 => ?_)
 ·
  replace hi1001 : a1 = false := (bNotT hi1001)
  exact (by exact (show (0 ≤ a0.Lo ∧ a0.Lo ≤ 18446744073709551615) ∧ (0 ≤ a0.Hi ∧ a0.Hi ≤ 18446744073709551615) from ⟨(by omega), (by omega)⟩))
 replace hi1001 : a1 = true := (bNotF hi1001)
 refine iteR (p := fun r : TSpan => (0 ≤ r.Lo ∧ r.Lo ≤ 18446744073709551615) ∧ (0 ≤ r.Hi ∧ r.Hi ≤ 18446744073709551615)) (fun hi1002 => ?_) (fun hi1002 => ?_)
 ·
  replace hi1002 : (sShr .u64 a0.Lo (32 : Int)) ≠ (sShr .u64 a0.Hi (32 : Int)) := (bNeT hi1002)
  refine letR (p := fun r : TSpan => (0 ≤ r.Lo ∧ r.Lo ≤ 18446744073709551615) ∧ (0 ≤ r.Hi ∧ r.Hi ≤ 18446744073709551615)) fun x40 hx41 => ?_
  have hx42 : (0 ≤ x40.Lo ∧ x40.Lo ≤ 18446744073709551615) ∧ (0 ≤ x40.Hi ∧ x40.Hi ≤ 18446744073709551615) := by rw [← hx41]; exact span_All_ok true 
  exact (by exact (show (0 ≤ x40.Lo ∧ x40.Lo ≤ 18446744073709551615) ∧ (0 ≤ x40.Hi ∧ x40.Hi ≤ 18446744073709551615) from ⟨(by omega), (by omega)⟩))
 replace hi1002 : (sShr .u64 a0.Lo (32 : Int)) = (sShr .u64 a0.Hi (32 : Int)) := (bNeF hi1002)
 exact (by exact (show (0 ≤ (bAnd .u64 a0.Lo (4294967295 : Int)) ∧ (bAnd .u64 a0.Lo (4294967295 : Int)) ≤ 18446744073709551615) ∧ (0 ≤ (bAnd .u64 a0.Hi (4294967295 : Int)) ∧ (bAnd .u64 a0.Hi (4294967295 : Int)) ≤ 18446744073709551615) from ⟨(wrapU64 _), (wrapU64 _)⟩))

theorem span_cut_any (a0 : TSpan) (a1 : Bool)   (w : World)  (_h_a0 : (0 ≤ a0.Lo ∧ a0.Lo ≤ 18446744073709551615) ∧ (0 ≤ a0.Hi ∧ a0.Hi ≤ 18446744073709551615))  : Calls Try.prog 89 #[.agg #[.int .u64 a0.Lo, .int .u64 a0.Hi], .bool a1] w (RetV w (.agg #[.int .u64 (span_cut a0 a1).Lo, .int .u64 (span_cut a0 a1).Hi])) := by
 have hs := span_cut.eq_1 a0 a1
 refine calls_of_CW Try.func89 rfl (n := 25) Try.ntmps89 (by kernel_rfl) [0, 1] (F := [(0, .agg #[.int .u64 a0.Lo, .int .u64 a0.Hi]), (1, .bool a1)]) (by kernel_rfl) ?_
 refine CW.seq fun K1 hK1 => ?_
 refine CW.region ?_
 refine WR.box (dst := some 2) (e := 25) (v := .agg #[.int .u64 a0.Lo, .int .u64 a0.Hi]) (by kernel_rfl) #[.int .u64 a0.Lo, .int .u64 a0.Hi] (by kernel_rfl) ?_
 intro g2 w3 hN4
 have hf6 : w.heap.size ≤ g2 := hN4.fresh
 have hfr8 := hN4.fresh
 have hc7 := hN4.chg
 have hz10 := hc7.size
 have hC9 := (Chg.refl [] w).pure hc7
 have hb5 := hN4.blk
 have hg11 := hb5.lt
 refine WR.alloc (dst := some 4) (e := 25) (by kernel_rfl) #[.int .u64 0, .int .u64 0] (by kernel_rfl) ?_
 intro g12 w13 hN14
 have hl17 : g2 < g12 := Nat.lt_of_lt_of_le hb5.lt hN14.fresh
 have hf16 : w.heap.size ≤ g12 := Nat.le_trans hC9.size hN14.fresh
 have hfr19 := hN14.fresh
 have hc18 := hN14.chg
 have hz21 := hc18.size
 have hC20 := hC9.pure hc18
 have hb22 := hb5.pure hc18
 have hb15 := hN14.blk
 have hg23 := hb15.lt
 refine WR.fin (by kernel_rfl) ?_
 refine go hK1 ?_
 refine CW.seq fun K24 hK24 => ?_
 refine CW.block ?_
 refine CW.seq fun K25 hK25 => ?_
 refine CW.region ?_
 refine WR.batch 3 [(2, pt g2 0), (4, pt g12 0), (5, .bool (!a1))] (by kernel_rfl) ?_
 refine WR.fin (by kernel_rfl) ?_
 refine go hK25 ?_
 refine CW.cond ((!a1)) (by kernel_rfl) (fun ht26 => ?_) (fun ht26 => ?_)
 ·
  have hs27 := ifT ht26 hs
  replace ht26 : a1 = false := (bNotT ht26)
  refine CW.seq fun K28 hK28 => ?_
  refine CW.region ?_
  refine WR.load (dst := some 8) (t := 25) (o := 0) hb22 (by kernel_rfl) (.agg #[.int .u64 a0.Lo, .int .u64 a0.Hi]) (by kernel_rfl) ?_
  refine WR.store (t := 25) (o := 0) (v := .agg #[.int .u64 a0.Lo, .int .u64 a0.Hi]) hb15 (by kernel_rfl) #[.int .u64 a0.Lo, .int .u64 a0.Hi] (by kernel_rfl) ?_
  intro w29 hb30 hc31
  have hz33 := hc31.size
  have hC32 := hC20.step1 hc31 (by omega)
  have hb34 := hb22.chg1 hc31 (by omega)
  refine WR.fin (by kernel_rfl) ?_
  refine go hK28 ?_
  refine CW.ret ?_
  exact retC [.agg #[.int .u64 a0.Lo, .int .u64 a0.Hi]] (.agg #[.int .u64 a0.Lo, .int .u64 a0.Hi]) rfl ⟨resCell hb30 rfl (by kernel_rfl), trivial⟩ (⟨hC32, (congrArg (fun r : TSpan => (.agg #[.int .u64 r.Lo, .int .u64 r.Hi] : Value)) hs27).symm⟩)
 have hs35 := ifF ht26 hs
 replace ht26 : a1 = true := (bNotF ht26)
 refine CW.seq fun K36 hK36 => ?_
 refine CW.region ?_
 refine WR.batch 1 [(2, pt g2 0), (4, pt g12 0), (10, pt g2 0)] (by kernel_rfl) ?_
 refine WR.load (dst := some 11) (t := 23) (o := 0) hb22 (by kernel_rfl) (.int .u64 a0.Lo) (by kernel_rfl) ?_
 refine WR.batch 2 [(2, pt g2 0), (4, pt g12 0), (12, .int .u64 (sShr .u64 a0.Lo (32 : Int))), (13, pt g2 1)] (by kernel_rfl) ?_
 refine WR.load (dst := some 14) (t := 23) (o := 1) hb22 (by kernel_rfl) (.int .u64 a0.Hi) (by kernel_rfl) ?_
 refine WR.batch 3 [(2, pt g2 0), (4, pt g12 0), (9, .bool ((sShr .u64 a0.Lo (32 : Int)) != (sShr .u64 a0.Hi (32 : Int))))] (by kernel_rfl) ?_
 refine WR.fin (by kernel_rfl) ?_
 refine go hK36 ?_
 refine CW.cond (((sShr .u64 a0.Lo (32 : Int)) != (sShr .u64 a0.Hi (32 : Int)))) (by kernel_rfl) (fun ht37 => ?_) (fun ht37 => ?_)
 ·
  have hs38 := ifT ht37 hs35
  replace ht37 : (sShr .u64 a0.Lo (32 : Int)) ≠ (sShr .u64 a0.Hi (32 : Int)) := (bNeT ht37)
  refine CW.seq fun K39 hK39 => ?_
  refine CW.region ?_
  obtain ⟨x40, hx41⟩ : ∃ x, span_All true = x := ⟨_, rfl⟩
  have hs43 := letS hx41 hs38
  have hx44 : (0 ≤ x40.Lo ∧ x40.Lo ≤ 18446744073709551615) ∧ (0 ≤ x40.Hi ∧ x40.Hi ≤ 18446744073709551615) := by rw [← hx41]; exact span_All_ok true 
  refine WR.call (dst := some 17) (by kernel_rfl) (retE (g := fun r : TSpan => (.agg #[.int .u64 r.Lo, .int .u64 r.Hi] : Value)) hx41 (span_All_any true w13  )) ?_
  rintro _ w45 hc46 rfl
  have hz48 := hc46.size
  have hC47 := hC20.pure hc46
  have hb49 := hb22.pure hc46
  have hb50 := hb15.pure hc46
  refine WR.store (t := 25) (o := 0) (v := .agg #[.int .u64 x40.Lo, .int .u64 x40.Hi]) hb50 (by kernel_rfl) #[.int .u64 x40.Lo, .int .u64 x40.Hi] (by kernel_rfl) ?_
  intro w51 hb52 hc53
  have hz55 := hc53.size
  have hC54 := hC47.step1 hc53 (by omega)
  have hb56 := hb49.chg1 hc53 (by omega)
  refine WR.fin (by kernel_rfl) ?_
  refine go hK39 ?_
  refine CW.ret ?_
  exact retC [.agg #[.int .u64 x40.Lo, .int .u64 x40.Hi]] (.agg #[.int .u64 x40.Lo, .int .u64 x40.Hi]) rfl ⟨resCell hb52 rfl (by kernel_rfl), trivial⟩ (⟨hC54, (congrArg (fun r : TSpan => (.agg #[.int .u64 r.Lo, .int .u64 r.Hi] : Value)) hs43).symm⟩)
 have hs57 := ifF ht37 hs35
 replace ht37 : (sShr .u64 a0.Lo (32 : Int)) = (sShr .u64 a0.Hi (32 : Int)) := (bNeF ht37)
 refine CW.skip ?_
 refine go hK24 ?_
 refine CW.seq fun K58 hK58 => ?_
 refine CW.region ?_
 refine WR.batch 1 [(2, pt g2 0), (4, pt g12 0), (18, pt g2 0)] (by kernel_rfl) ?_
 refine WR.load (dst := some 19) (t := 23) (o := 0) hb22 (by kernel_rfl) (.int .u64 a0.Lo) (by kernel_rfl) ?_
 refine WR.batch 2 [(4, pt g12 0), (20, .int .u64 (bAnd .u64 a0.Lo (4294967295 : Int))), (21, pt g2 1)] (by kernel_rfl) ?_
 refine WR.load (dst := some 22) (t := 23) (o := 1) hb22 (by kernel_rfl) (.int .u64 a0.Hi) (by kernel_rfl) ?_
 refine WR.batch 2 [(4, pt g12 0), (24, .agg #[.int .u64 (bAnd .u64 a0.Lo (4294967295 : Int)), .int .u64 (bAnd .u64 a0.Hi (4294967295 : Int))])] (by kernel_rfl) ?_
 refine WR.store (t := 25) (o := 0) (v := .agg #[.int .u64 (bAnd .u64 a0.Lo (4294967295 : Int)), .int .u64 (bAnd .u64 a0.Hi (4294967295 : Int))]) hb15 (by kernel_rfl) #[.int .u64 (bAnd .u64 a0.Lo (4294967295 : Int)), .int .u64 (bAnd .u64 a0.Hi (4294967295 : Int))] (by kernel_rfl) ?_
 intro w59 hb60 hc61
 have hz63 := hc61.size
 have hC62 := hC20.step1 hc61 (by omega)
 have hb64 := hb22.chg1 hc61 (by omega)
 refine WR.fin (by kernel_rfl) ?_
 refine go hK58 ?_
 refine CW.ret ?_
 exact retC [.agg #[.int .u64 (bAnd .u64 a0.Lo (4294967295 : Int)), .int .u64 (bAnd .u64 a0.Hi (4294967295 : Int))]] (.agg #[.int .u64 (bAnd .u64 a0.Lo (4294967295 : Int)), .int .u64 (bAnd .u64 a0.Hi (4294967295 : Int))]) rfl ⟨resCell hb60 rfl (by kernel_rfl), trivial⟩ (⟨hC62, (congrArg (fun r : TSpan => (.agg #[.int .u64 r.Lo, .int .u64 r.Hi] : Value)) hs57).symm⟩)

def span_one (a0 : TSpan)  : Bool := (letF (span_Of a0.Lo) fun x13 => ((a0.Lo == x13.Lo) && (a0.Hi == x13.Hi)))

theorem span_one_any (a0 : TSpan)   (w : World)  (_h_a0 : (0 ≤ a0.Lo ∧ a0.Lo ≤ 18446744073709551615) ∧ (0 ≤ a0.Hi ∧ a0.Hi ≤ 18446744073709551615))  : Calls Try.prog 131 #[.agg #[.int .u64 a0.Lo, .int .u64 a0.Hi]] w (RetV w (.bool (span_one a0))) := by
 have hs := span_one.eq_1 a0
 refine calls_of_CW Try.func131 rfl (n := 8) Try.ntmps131 (by kernel_rfl) [0] (F := [(0, .agg #[.int .u64 a0.Lo, .int .u64 a0.Hi])]) (by kernel_rfl) ?_
 refine CW.seq fun K1 hK1 => ?_
 refine CW.region ?_
 refine WR.box (dst := some 1) (e := 25) (v := .agg #[.int .u64 a0.Lo, .int .u64 a0.Hi]) (by kernel_rfl) #[.int .u64 a0.Lo, .int .u64 a0.Hi] (by kernel_rfl) ?_
 intro g2 w3 hN4
 have hf6 : w.heap.size ≤ g2 := hN4.fresh
 have hfr8 := hN4.fresh
 have hc7 := hN4.chg
 have hz10 := hc7.size
 have hC9 := (Chg.refl [] w).pure hc7
 have hb5 := hN4.blk
 have hg11 := hb5.lt
 refine WR.batch 1 [(1, pt g2 0)] (by kernel_rfl) ?_
 refine WR.fin (by kernel_rfl) ?_
 refine go hK1 ?_
 refine CW.seq fun K12 hK12 => ?_
 refine CW.regionQ (by kernel_rfl) (by kernel_rfl) ?_
 refine WQ.load (dst := some 3) (t := 25) (o := 0) (fun _ hq => hb5.pure hq) (by kernel_rfl) (.agg #[.int .u64 a0.Lo, .int .u64 a0.Hi]) (by kernel_rfl) ?_
 refine WQ.val (dst := some 4) (pt g2 0) (fun _ => by kernel_rfl) ?_
 refine WQ.load (dst := some 5) (t := 23) (o := 0) (fun _ hq => hb5.pure hq) (by kernel_rfl) (.int .u64 a0.Lo) (by kernel_rfl) ?_
 obtain ⟨x13, hx14⟩ : ∃ x, span_Of a0.Lo = x := ⟨_, rfl⟩
 have hs16 := letS hx14 hs
 have hx17 : (0 ≤ x13.Lo ∧ x13.Lo ≤ 18446744073709551615) ∧ (0 ≤ x13.Hi ∧ x13.Hi ≤ 18446744073709551615) := by rw [← hx14]; exact span_Of_ok a0.Lo (by omega) 
 refine WQ.call (dst := some 6) (.agg #[.int .u64 x13.Lo, .int .u64 x13.Hi]) (fun _ => by kernel_rfl) (fun _ _ h h' => h.pure h') (fun wq hq => retE (g := fun r : TSpan => (.agg #[.int .u64 r.Lo, .int .u64 r.Hi] : Value)) hx14 (span_Of_any a0.Lo wq  (by omega) )) ?_
 refine WQ.val (dst := some 7) (.bool ((a0.Lo == x13.Lo) && (a0.Hi == x13.Hi))) (run_eqS (t := 25) (xs := #[.int .u64 a0.Lo, .int .u64 a0.Hi]) (ys := #[.int .u64 x13.Lo, .int .u64 x13.Hi]) (neg := false) (b := ((a0.Lo == x13.Lo) && (a0.Hi == x13.Hi))) (by kernel_rfl) (by kernel_rfl) (by kernel_rfl)) ?_
 refine WQ.val (dst := some 2) (.bool ((a0.Lo == x13.Lo) && (a0.Hi == x13.Hi))) (fun _ => by kernel_rfl) ?_
 refine WQ.fin (by kernel_rfl) ?_
 intro w18 hc19
 have hz21 := hc19.size
 have hC20 := hC9.pure hc19
 have hb22 := hb5.pure hc19
 refine go hK12 ?_
 refine CW.ret ?_
 exact retV (.bool ((a0.Lo == x13.Lo) && (a0.Hi == x13.Hi))) (by kernel_rfl) (⟨hC20, (congrArg (fun r : Bool => (.bool r : Value)) hs16).symm⟩)

structure Twork where
  a : TSpan
  b : TSpan
  narrow : Bool
  most : Int
  size : Int
deriving Inhabited, DecidableEq

def span_over (a0 : Bool) (a1 : TSpan) (a2 : TSpan)  : Twork := (if a0 then (⟨(span_cut a1 a0), (span_cut a2 a0), a0, (4294967295 : Int), (32 : Int)⟩ : Twork) else (⟨(span_cut a1 a0), (span_cut a2 a0), a0, (18446744073709551615 : Int), (64 : Int)⟩ : Twork))

theorem span_over_ok (a0 : Bool) (a1 : TSpan) (a2 : TSpan)  (_h_a1 : (0 ≤ a1.Lo ∧ a1.Lo ≤ 18446744073709551615) ∧ (0 ≤ a1.Hi ∧ a1.Hi ≤ 18446744073709551615)) (_h_a2 : (0 ≤ a2.Lo ∧ a2.Lo ≤ 18446744073709551615) ∧ (0 ≤ a2.Hi ∧ a2.Hi ≤ 18446744073709551615))  : (0 ≤ (span_over a0 a1 a2).a.Lo ∧ (span_over a0 a1 a2).a.Lo ≤ 18446744073709551615) ∧ (0 ≤ (span_over a0 a1 a2).a.Hi ∧ (span_over a0 a1 a2).a.Hi ≤ 18446744073709551615) ∧ (0 ≤ (span_over a0 a1 a2).b.Lo ∧ (span_over a0 a1 a2).b.Lo ≤ 18446744073709551615) ∧ (0 ≤ (span_over a0 a1 a2).b.Hi ∧ (span_over a0 a1 a2).b.Hi ≤ 18446744073709551615) ∧ (0 ≤ (span_over a0 a1 a2).most ∧ (span_over a0 a1 a2).most ≤ 18446744073709551615) ∧ (0 ≤ (span_over a0 a1 a2).size ∧ (span_over a0 a1 a2).size ≤ 18446744073709551615) := by
 rw [span_over.eq_1]
 refine iteR (p := fun r : Twork => (0 ≤ r.a.Lo ∧ r.a.Lo ≤ 18446744073709551615) ∧ (0 ≤ r.a.Hi ∧ r.a.Hi ≤ 18446744073709551615) ∧ (0 ≤ r.b.Lo ∧ r.b.Lo ≤ 18446744073709551615) ∧ (0 ≤ r.b.Hi ∧ r.b.Hi ≤ 18446744073709551615) ∧ (0 ≤ r.most ∧ r.most ≤ 18446744073709551615) ∧ (0 ≤ r.size ∧ r.size ≤ 18446744073709551615)) (fun hi1001 => ?_) (fun hi1001 => ?_)
 ·
  exact (by have : (0 ≤ (span_cut a1 a0).Lo ∧ (span_cut a1 a0).Lo ≤ 18446744073709551615) ∧ (0 ≤ (span_cut a1 a0).Hi ∧ (span_cut a1 a0).Hi ≤ 18446744073709551615) := span_cut_ok a1 a0 ⟨(by omega), (by omega)⟩ ; have : (0 ≤ (span_cut a2 a0).Lo ∧ (span_cut a2 a0).Lo ≤ 18446744073709551615) ∧ (0 ≤ (span_cut a2 a0).Hi ∧ (span_cut a2 a0).Hi ≤ 18446744073709551615) := span_cut_ok a2 a0 ⟨(by omega), (by omega)⟩ ; exact (show (0 ≤ (span_cut a1 a0).Lo ∧ (span_cut a1 a0).Lo ≤ 18446744073709551615) ∧ (0 ≤ (span_cut a1 a0).Hi ∧ (span_cut a1 a0).Hi ≤ 18446744073709551615) ∧ (0 ≤ (span_cut a2 a0).Lo ∧ (span_cut a2 a0).Lo ≤ 18446744073709551615) ∧ (0 ≤ (span_cut a2 a0).Hi ∧ (span_cut a2 a0).Hi ≤ 18446744073709551615) ∧ (0 ≤ (4294967295 : Int) ∧ (4294967295 : Int) ≤ 18446744073709551615) ∧ (0 ≤ (32 : Int) ∧ (32 : Int) ≤ 18446744073709551615) from ⟨(by omega), (by omega), (by omega), (by omega), (by omega), (by omega)⟩))
 exact (by have : (0 ≤ (span_cut a1 a0).Lo ∧ (span_cut a1 a0).Lo ≤ 18446744073709551615) ∧ (0 ≤ (span_cut a1 a0).Hi ∧ (span_cut a1 a0).Hi ≤ 18446744073709551615) := span_cut_ok a1 a0 ⟨(by omega), (by omega)⟩ ; have : (0 ≤ (span_cut a2 a0).Lo ∧ (span_cut a2 a0).Lo ≤ 18446744073709551615) ∧ (0 ≤ (span_cut a2 a0).Hi ∧ (span_cut a2 a0).Hi ≤ 18446744073709551615) := span_cut_ok a2 a0 ⟨(by omega), (by omega)⟩ ; exact (show (0 ≤ (span_cut a1 a0).Lo ∧ (span_cut a1 a0).Lo ≤ 18446744073709551615) ∧ (0 ≤ (span_cut a1 a0).Hi ∧ (span_cut a1 a0).Hi ≤ 18446744073709551615) ∧ (0 ≤ (span_cut a2 a0).Lo ∧ (span_cut a2 a0).Lo ≤ 18446744073709551615) ∧ (0 ≤ (span_cut a2 a0).Hi ∧ (span_cut a2 a0).Hi ≤ 18446744073709551615) ∧ (0 ≤ (18446744073709551615 : Int) ∧ (18446744073709551615 : Int) ≤ 18446744073709551615) ∧ (0 ≤ (64 : Int) ∧ (64 : Int) ≤ 18446744073709551615) from ⟨(by omega), (by omega), (by omega), (by omega), (by omega), (by omega)⟩))

set_option maxHeartbeats 4000000 in
theorem span_over_any (a0 : Bool) (a1 : TSpan) (a2 : TSpan)   (w : World)  (_h_a1 : (0 ≤ a1.Lo ∧ a1.Lo ≤ 18446744073709551615) ∧ (0 ≤ a1.Hi ∧ a1.Hi ≤ 18446744073709551615)) (_h_a2 : (0 ≤ a2.Lo ∧ a2.Lo ≤ 18446744073709551615) ∧ (0 ≤ a2.Hi ∧ a2.Hi ≤ 18446744073709551615))  : Calls Try.prog 55 #[.bool a0, .agg #[.int .u64 a1.Lo, .int .u64 a1.Hi], .agg #[.int .u64 a2.Lo, .int .u64 a2.Hi]] w (RetV w (.agg #[.int .u64 (span_over a0 a1 a2).a.Lo, .int .u64 (span_over a0 a1 a2).a.Hi, .int .u64 (span_over a0 a1 a2).b.Lo, .int .u64 (span_over a0 a1 a2).b.Hi, .bool (span_over a0 a1 a2).narrow, .int .u64 (span_over a0 a1 a2).most, .int .u64 (span_over a0 a1 a2).size])) := by
 have hs := span_over.eq_1 a0 a1 a2
 refine calls_of_CW Try.func55 rfl (n := 20) Try.ntmps55 (by kernel_rfl) [0, 1, 2] (F := [(0, .bool a0), (1, .agg #[.int .u64 a1.Lo, .int .u64 a1.Hi]), (2, .agg #[.int .u64 a2.Lo, .int .u64 a2.Hi])]) (by kernel_rfl) ?_
 refine CW.seq fun K1 hK1 => ?_
 refine CW.region ?_
 refine WR.box (dst := some 4) (e := 25) (v := .agg #[.int .u64 a1.Lo, .int .u64 a1.Hi]) (by kernel_rfl) #[.int .u64 a1.Lo, .int .u64 a1.Hi] (by kernel_rfl) ?_
 intro g2 w3 hN4
 have hf6 : w.heap.size ≤ g2 := hN4.fresh
 have hfr8 := hN4.fresh
 have hc7 := hN4.chg
 have hz10 := hc7.size
 have hC9 := (Chg.refl [] w).pure hc7
 have hb5 := hN4.blk
 have hg11 := hb5.lt
 refine WR.box (dst := some 5) (e := 25) (v := .agg #[.int .u64 a2.Lo, .int .u64 a2.Hi]) (by kernel_rfl) #[.int .u64 a2.Lo, .int .u64 a2.Hi] (by kernel_rfl) ?_
 intro g12 w13 hN14
 have hl17 : g2 < g12 := Nat.lt_of_lt_of_le hb5.lt hN14.fresh
 have hf16 : w.heap.size ≤ g12 := Nat.le_trans hC9.size hN14.fresh
 have hfr19 := hN14.fresh
 have hc18 := hN14.chg
 have hz21 := hc18.size
 have hC20 := hC9.pure hc18
 have hb22 := hb5.pure hc18
 have hb15 := hN14.blk
 have hg23 := hb15.lt
 refine WR.alloc (dst := some 6) (e := 79) (by kernel_rfl) #[.int .u64 0, .int .u64 0, .int .u64 0, .int .u64 0, .bool false, .int .u64 0, .int .u64 0] (by kernel_rfl) ?_
 intro g24 w25 hN26
 have hl29 : g2 < g24 := Nat.lt_of_lt_of_le hb22.lt hN26.fresh
 have hl30 : g12 < g24 := Nat.lt_of_lt_of_le hb15.lt hN26.fresh
 have hf28 : w.heap.size ≤ g24 := Nat.le_trans hC20.size hN26.fresh
 have hfr32 := hN26.fresh
 have hc31 := hN26.chg
 have hz34 := hc31.size
 have hC33 := hC20.pure hc31
 have hb35 := hb22.pure hc31
 have hb36 := hb15.pure hc31
 have hb27 := hN26.blk
 have hg37 := hb27.lt
 refine WR.fin (by kernel_rfl) ?_
 refine go hK1 ?_
 refine CW.seq fun K38 hK38 => ?_
 refine CW.keep [0, 4, 5, 6] (F' := [(0, .bool a0), (4, pt g2 0), (5, pt g12 0), (6, pt g24 0)]) (by kernel_rfl) ?_
 refine CW.regionG 9 [some (.agg #[.int .u64 a1.Lo, .int .u64 a1.Hi]), some (.bool a0), some (.agg #[.int .u64 (span_cut a1 a0).Lo, .int .u64 (span_cut a1 a0).Hi]), some (.agg #[.int .u64 a2.Lo, .int .u64 a2.Hi]), some (.bool a0), some (.agg #[.int .u64 (span_cut a2 a0).Lo, .int .u64 (span_cut a2 a0).Hi]), some (.bool a0), some (.agg #[.int .u64 (span_cut a1 a0).Lo, .int .u64 (span_cut a1 a0).Hi, .int .u64 (span_cut a2 a0).Lo, .int .u64 (span_cut a2 a0).Hi, .bool a0, .int .u64 18446744073709551615, .int .u64 64]), none] (fun u => [(8, .agg #[.int .u64 a1.Lo, .int .u64 a1.Hi]), (9, .bool a0), (10, .agg #[.int .u64 (span_cut a1 a0).Lo, .int .u64 (span_cut a1 a0).Hi]), (11, .agg #[.int .u64 a2.Lo, .int .u64 a2.Hi]), (12, .bool a0), (13, .agg #[.int .u64 (span_cut a2 a0).Lo, .int .u64 (span_cut a2 a0).Hi]), (14, .bool a0), (15, .agg #[.int .u64 (span_cut a1 a0).Lo, .int .u64 (span_cut a1 a0).Hi, .int .u64 (span_cut a2 a0).Lo, .int .u64 (span_cut a2 a0).Hi, .bool a0, .int .u64 18446744073709551615, .int .u64 64]), (7, u 8), (0, .bool a0), (4, pt g2 0), (5, pt g12 0), (6, pt g24 0)]) (fun _ => by kernel_rfl) (by kernel_rfl) [] (fun _ _ => True) (fun _ => trivial) (fun _ _ _ _ _ _ _ => trivial) [8] [] (by kernel_rfl) (fun w' => Chg [] w25 w') (fun i v w' => match i with | 0 => True | 1 => True | 2 => True | 3 => True | 4 => True | 5 => True | 6 => True | 7 => True | 8 => ∃ g, v = .pointer (some ⟨g, 0, none⟩) ∧ Blk w' g #[.int .u64 0, .int .u64 0, .int .u64 0, .int .u64 0, .bool false, .int .u64 0, .int .u64 0] 79 ∧ w25.heap.size ≤ g | _ => True) (fun j x w hj h => match j, hj, h with | 0, hj, h => absurd hj (by decide) | 1, hj, h => absurd hj (by decide) | 2, hj, h => absurd hj (by decide) | 3, hj, h => absurd hj (by decide) | 4, hj, h => absurd hj (by decide) | 5, hj, h => absurd hj (by decide) | 6, hj, h => absurd hj (by decide) | 7, hj, h => absurd hj (by decide) | 8, hj, h => newLt h | j + 9, hj, _ => absurd hj (by simp)) (by kernel_rfl) (by kernel_rfl) (by kernel_rfl) (by kernel_rfl) (Chg.drew w25) (fun _ _ _ h h' => h.step h' (fun t ht => .inl (cL_sub t ht))) ?_ ⟨?_, (obsG_batch 1 1 7 (fun _ _ => by kernel_rfl) (by kernel_rfl) ⟨?_, ⟨?_, (obsG_batch 1 4 4 (fun _ _ => by kernel_rfl) (by kernel_rfl) ⟨?_, (obsG_batch 2 6 1 (fun _ _ => by kernel_rfl) (by kernel_rfl) ⟨?_, trivial⟩)⟩)⟩⟩)⟩ ?_
 ·
  intro i j v w1 w2 hij h hc
  match j, hij, h with
  | 0, _, _ => trivial
  | 1, _, _ => trivial
  | 2, _, _ => trivial
  | 3, _, _ => trivial
  | 4, _, _ => trivial
  | 5, _, _ => trivial
  | 6, _, _ => trivial
  | 7, _, _ => trivial
  | 8, _, h => exact h.elim fun g h => ⟨g, h.1, h.2.1.pure hc, h.2.2⟩
  | n + 9, _, _ => trivial
 ·
  intro u39 w40 hW41 _ hp42 hal43
  have hz46 := hW41.size
  have hC45 := hC33.pure hW41
  have hb47 := hb35.pure hW41
  have hb48 := hb36.pure hW41
  have hb49 := hb27.pure hW41
  refine WR.load (dst := some 8) (t := 25) (o := 0) hb47 (by kernel_rfl) (.agg #[.int .u64 a1.Lo, .int .u64 a1.Hi]) (by kernel_rfl) ?_
  refine WR.fin (by kernel_rfl) ?_
  exact fun _ ha => ⟨Chg.refl _ _, _, ha, ⟨⟨fun h => absurd h (by decide), alNone (by decide)⟩, rfl⟩⟩
 ·
  intro u50 w51 hW52 _ hp53 hal54
  have hz57 := hW52.size
  have hC56 := hC33.pure hW52
  have hb58 := hb35.pure hW52
  have hb59 := hb36.pure hW52
  have hb60 := hb27.pure hW52
  have hx61 : (0 ≤ (span_cut a1 a0).Lo ∧ (span_cut a1 a0).Lo ≤ 18446744073709551615) ∧ (0 ≤ (span_cut a1 a0).Hi ∧ (span_cut a1 a0).Hi ≤ 18446744073709551615) := span_cut_ok a1 a0 ⟨(by omega), (by omega)⟩ 
  have hx62 : (0 ≤ (span_cut a2 a0).Lo ∧ (span_cut a2 a0).Lo ≤ 18446744073709551615) ∧ (0 ≤ (span_cut a2 a0).Hi ∧ (span_cut a2 a0).Hi ≤ 18446744073709551615) := span_cut_ok a2 a0 ⟨(by omega), (by omega)⟩ 
  have hx63 : (0 ≤ (span_cut a1 a0).Lo ∧ (span_cut a1 a0).Lo ≤ 18446744073709551615) ∧ (0 ≤ (span_cut a1 a0).Hi ∧ (span_cut a1 a0).Hi ≤ 18446744073709551615) := span_cut_ok a1 a0 ⟨(by omega), (by omega)⟩ 
  refine WR.call (dst := some 10) (by kernel_rfl) (span_cut_any a1 a0 w51  ⟨(by omega), (by omega)⟩ ) ?_
  rintro _ w64 hc65 rfl
  have hz67 := hc65.size
  have hC66 := hC56.pure hc65
  have hb68 := hb58.pure hc65
  have hb69 := hb59.pure hc65
  have hb70 := hb60.pure hc65
  refine WR.fin (by kernel_rfl) ?_
  exact fun _ ha => ⟨hc65, _, ha, ⟨⟨fun h => absurd h (by decide), alNone (by decide)⟩, rfl⟩⟩
 ·
  intro u71 w72 hW73 _ hp74 hal75
  have hz78 := hW73.size
  have hC77 := hC33.pure hW73
  have hb79 := hb35.pure hW73
  have hb80 := hb36.pure hW73
  have hb81 := hb27.pure hW73
  refine WR.load (dst := some 11) (t := 25) (o := 0) hb80 (by kernel_rfl) (.agg #[.int .u64 a2.Lo, .int .u64 a2.Hi]) (by kernel_rfl) ?_
  refine WR.fin (by kernel_rfl) ?_
  exact fun _ ha => ⟨Chg.refl _ _, _, ha, ⟨⟨fun h => absurd h (by decide), alNone (by decide)⟩, rfl⟩⟩
 ·
  intro u82 w83 hW84 _ hp85 hal86
  have hz89 := hW84.size
  have hC88 := hC33.pure hW84
  have hb90 := hb35.pure hW84
  have hb91 := hb36.pure hW84
  have hb92 := hb27.pure hW84
  have hx93 : (0 ≤ (span_cut a1 a0).Lo ∧ (span_cut a1 a0).Lo ≤ 18446744073709551615) ∧ (0 ≤ (span_cut a1 a0).Hi ∧ (span_cut a1 a0).Hi ≤ 18446744073709551615) := span_cut_ok a1 a0 ⟨(by omega), (by omega)⟩ 
  have hx94 : (0 ≤ (span_cut a2 a0).Lo ∧ (span_cut a2 a0).Lo ≤ 18446744073709551615) ∧ (0 ≤ (span_cut a2 a0).Hi ∧ (span_cut a2 a0).Hi ≤ 18446744073709551615) := span_cut_ok a2 a0 ⟨(by omega), (by omega)⟩ 
  have hx95 : (0 ≤ (span_cut a2 a0).Lo ∧ (span_cut a2 a0).Lo ≤ 18446744073709551615) ∧ (0 ≤ (span_cut a2 a0).Hi ∧ (span_cut a2 a0).Hi ≤ 18446744073709551615) := span_cut_ok a2 a0 ⟨(by omega), (by omega)⟩ 
  refine WR.call (dst := some 13) (by kernel_rfl) (span_cut_any a2 a0 w83  ⟨(by omega), (by omega)⟩ ) ?_
  rintro _ w96 hc97 rfl
  have hz99 := hc97.size
  have hC98 := hC88.pure hc97
  have hb100 := hb90.pure hc97
  have hb101 := hb91.pure hc97
  have hb102 := hb92.pure hc97
  refine WR.fin (by kernel_rfl) ?_
  exact fun _ ha => ⟨hc97, _, ha, ⟨⟨fun h => absurd h (by decide), alNone (by decide)⟩, rfl⟩⟩
 ·
  intro u103 w104 hW105 _ hp106 hal107
  have hz110 := hW105.size
  have hC109 := hC33.pure hW105
  have hb111 := hb35.pure hW105
  have hb112 := hb36.pure hW105
  have hb113 := hb27.pure hW105
  refine WR.alloc (dst := some 7) (e := 79) (by kernel_rfl) #[.int .u64 0, .int .u64 0, .int .u64 0, .int .u64 0, .bool false, .int .u64 0, .int .u64 0] (by kernel_rfl) ?_
  intro g114 w115 hN116
  have hl119 : g2 < g114 := Nat.lt_of_lt_of_le hb111.lt hN116.fresh
  have hl120 : g12 < g114 := Nat.lt_of_lt_of_le hb112.lt hN116.fresh
  have hl121 : g24 < g114 := Nat.lt_of_lt_of_le hb113.lt hN116.fresh
  have hf118 : w.heap.size ≤ g114 := Nat.le_trans hC109.size hN116.fresh
  have hfr123 := hN116.fresh
  have hc122 := hN116.chg
  have hz125 := hc122.size
  have hC124 := hC109.pure hc122
  have hb126 := hb111.pure hc122
  have hb127 := hb112.pure hc122
  have hb128 := hb113.pure hc122
  have hb117 := hN116.blk
  have hg129 := hb117.lt
  refine WR.fin (by kernel_rfl) ?_
  exact fun _ ha => ⟨hc122, _, ha, ⟨⟨fun _ => .inr (by simp only [adOf, bk]; omega), alNone (by decide)⟩, ⟨g114, rfl, hb117, by omega⟩⟩⟩
 intro u130 w131 hW132 hr133 _ _
 have hz137 := hW132.size
 have hC136 := hC33.pure hW132
 have hb138 := hb35.pure hW132
 have hb139 := hb36.pure hW132
 have hb140 := hb27.pure hW132
 obtain ⟨g142, hp141, hb143, hf144⟩ : ∃ g, u130 8 = .pointer (some ⟨g, 0, none⟩) ∧ Blk w131 g #[.int .u64 0, .int .u64 0, .int .u64 0, .int .u64 0, .bool false, .int .u64 0, .int .u64 0] 79 ∧ w25.heap.size ≤ g := hr133 8 (by omega) (by kernel_rfl)
 have hg145 := hb143.lt
 have hf146 : w.heap.size ≤ g142 := Nat.le_trans hC33.size hf144
 have hx147 : (0 ≤ (span_cut a1 a0).Lo ∧ (span_cut a1 a0).Lo ≤ 18446744073709551615) ∧ (0 ≤ (span_cut a1 a0).Hi ∧ (span_cut a1 a0).Hi ≤ 18446744073709551615) := span_cut_ok a1 a0 ⟨(by omega), (by omega)⟩ 
 have hx148 : (0 ≤ (span_cut a2 a0).Lo ∧ (span_cut a2 a0).Lo ≤ 18446744073709551615) ∧ (0 ≤ (span_cut a2 a0).Hi ∧ (span_cut a2 a0).Hi ≤ 18446744073709551615) := span_cut_ok a2 a0 ⟨(by omega), (by omega)⟩ 
 refine WR.keep [0, 6, 7, 15] (F' := [(0, .bool a0), (6, pt g24 0), (7, u130 8), (15, .agg #[.int .u64 (span_cut a1 a0).Lo, .int .u64 (span_cut a1 a0).Hi, .int .u64 (span_cut a2 a0).Lo, .int .u64 (span_cut a2 a0).Hi, .bool a0, .int .u64 18446744073709551615, .int .u64 64])]) (by kernel_rfl) ?_
 refine WR.eqF (F' := [(0, .bool a0), (6, pt g24 0), (7, pt g142 0), (15, .agg #[.int .u64 (span_cut a1 a0).Lo, .int .u64 (span_cut a1 a0).Hi, .int .u64 (span_cut a2 a0).Lo, .int .u64 (span_cut a2 a0).Hi, .bool a0, .int .u64 18446744073709551615, .int .u64 64])]) (by rw [hp141]) ?_
 refine WR.store (t := 79) (o := 0) (v := .agg #[.int .u64 (span_cut a1 a0).Lo, .int .u64 (span_cut a1 a0).Hi, .int .u64 (span_cut a2 a0).Lo, .int .u64 (span_cut a2 a0).Hi, .bool a0, .int .u64 18446744073709551615, .int .u64 64]) hb143 (by kernel_rfl) #[.int .u64 (span_cut a1 a0).Lo, .int .u64 (span_cut a1 a0).Hi, .int .u64 (span_cut a2 a0).Lo, .int .u64 (span_cut a2 a0).Hi, .bool a0, .int .u64 18446744073709551615, .int .u64 64] (by kernel_rfl) ?_
 intro w149 hb150 hc151
 have hz153 := hc151.size
 have hC152 := hC136.step1 hc151 (by omega)
 have hb154 := hb138.chg1 hc151 (by omega)
 have hb155 := hb139.chg1 hc151 (by omega)
 have hb156 := hb140.chg1 hc151 (by omega)
 refine WR.fin (by kernel_rfl) ?_
 refine go hK38 ?_
 refine CW.seq fun K157 hK157 => ?_
 refine CW.seq fun K158 hK158 => ?_
 refine CW.region ?_
 refine WR.batch 1 [(6, pt g24 0), (7, pt g142 0), (16, .bool a0)] (by kernel_rfl) ?_
 refine WR.fin (by kernel_rfl) ?_
 refine go hK158 ?_
 refine CW.cond (a0) (by kernel_rfl) (fun ht159 => ?_) (fun ht159 => ?_)
 ·
  have hs160 := ifT ht159 hs
  refine CW.region ?_
  refine WR.batch 1 [(6, pt g24 0), (7, pt g142 0), (17, pt g142 5)] (by kernel_rfl) ?_
  refine WR.store (t := 23) (o := 5) (v := .int .u64 4294967295) hb150 (by kernel_rfl) #[.int .u64 (span_cut a1 a0).Lo, .int .u64 (span_cut a1 a0).Hi, .int .u64 (span_cut a2 a0).Lo, .int .u64 (span_cut a2 a0).Hi, .bool a0, .int .u64 4294967295, .int .u64 64] (by kernel_rfl) ?_
  intro w161 hb162 hc163
  have hz165 := hc163.size
  have hC164 := hC152.step1 hc163 (by omega)
  have hb166 := hb154.chg1 hc163 (by omega)
  have hb167 := hb155.chg1 hc163 (by omega)
  have hb168 := hb156.chg1 hc163 (by omega)
  refine WR.batch 1 [(6, pt g24 0), (7, pt g142 0), (18, pt g142 6)] (by kernel_rfl) ?_
  refine WR.store (t := 23) (o := 6) (v := .int .u64 32) hb162 (by kernel_rfl) #[.int .u64 (span_cut a1 a0).Lo, .int .u64 (span_cut a1 a0).Hi, .int .u64 (span_cut a2 a0).Lo, .int .u64 (span_cut a2 a0).Hi, .bool a0, .int .u64 4294967295, .int .u64 32] (by kernel_rfl) ?_
  intro w169 hb170 hc171
  have hz173 := hc171.size
  have hC172 := hC164.step1 hc171 (by omega)
  have hb174 := hb166.chg1 hc171 (by omega)
  have hb175 := hb167.chg1 hc171 (by omega)
  have hb176 := hb168.chg1 hc171 (by omega)
  refine WR.fin (by kernel_rfl) ?_
  refine go hK157 ?_
  refine CW.seq fun K177 hK177 => ?_
  refine CW.region ?_
  refine WR.load (dst := some 19) (t := 79) (o := 0) hb170 (by kernel_rfl) (.agg #[.int .u64 (span_cut a1 a0).Lo, .int .u64 (span_cut a1 a0).Hi, .int .u64 (span_cut a2 a0).Lo, .int .u64 (span_cut a2 a0).Hi, .bool a0, .int .u64 4294967295, .int .u64 32]) (by kernel_rfl) ?_
  refine WR.store (t := 79) (o := 0) (v := .agg #[.int .u64 (span_cut a1 a0).Lo, .int .u64 (span_cut a1 a0).Hi, .int .u64 (span_cut a2 a0).Lo, .int .u64 (span_cut a2 a0).Hi, .bool a0, .int .u64 4294967295, .int .u64 32]) hb176 (by kernel_rfl) #[.int .u64 (span_cut a1 a0).Lo, .int .u64 (span_cut a1 a0).Hi, .int .u64 (span_cut a2 a0).Lo, .int .u64 (span_cut a2 a0).Hi, .bool a0, .int .u64 4294967295, .int .u64 32] (by kernel_rfl) ?_
  intro w178 hb179 hc180
  have hz182 := hc180.size
  have hC181 := hC172.step1 hc180 (by omega)
  have hb183 := hb174.chg1 hc180 (by omega)
  have hb184 := hb175.chg1 hc180 (by omega)
  have hb185 := hb170.chg1 hc180 (by omega)
  refine WR.fin (by kernel_rfl) ?_
  refine go hK177 ?_
  refine CW.ret ?_
  exact retC [.agg #[.int .u64 (span_cut a1 a0).Lo, .int .u64 (span_cut a1 a0).Hi, .int .u64 (span_cut a2 a0).Lo, .int .u64 (span_cut a2 a0).Hi, .bool a0, .int .u64 4294967295, .int .u64 32]] (.agg #[.int .u64 (span_cut a1 a0).Lo, .int .u64 (span_cut a1 a0).Hi, .int .u64 (span_cut a2 a0).Lo, .int .u64 (span_cut a2 a0).Hi, .bool a0, .int .u64 4294967295, .int .u64 32]) rfl ⟨resCell hb179 rfl (by kernel_rfl), trivial⟩ (⟨hC181, (congrArg (fun r : Twork => (.agg #[.int .u64 r.a.Lo, .int .u64 r.a.Hi, .int .u64 r.b.Lo, .int .u64 r.b.Hi, .bool r.narrow, .int .u64 r.most, .int .u64 r.size] : Value)) hs160).symm⟩)
 have hs186 := ifF ht159 hs
 refine CW.skip ?_
 refine go hK157 ?_
 refine CW.seq fun K187 hK187 => ?_
 refine CW.region ?_
 refine WR.load (dst := some 19) (t := 79) (o := 0) hb150 (by kernel_rfl) (.agg #[.int .u64 (span_cut a1 a0).Lo, .int .u64 (span_cut a1 a0).Hi, .int .u64 (span_cut a2 a0).Lo, .int .u64 (span_cut a2 a0).Hi, .bool a0, .int .u64 18446744073709551615, .int .u64 64]) (by kernel_rfl) ?_
 refine WR.store (t := 79) (o := 0) (v := .agg #[.int .u64 (span_cut a1 a0).Lo, .int .u64 (span_cut a1 a0).Hi, .int .u64 (span_cut a2 a0).Lo, .int .u64 (span_cut a2 a0).Hi, .bool a0, .int .u64 18446744073709551615, .int .u64 64]) hb156 (by kernel_rfl) #[.int .u64 (span_cut a1 a0).Lo, .int .u64 (span_cut a1 a0).Hi, .int .u64 (span_cut a2 a0).Lo, .int .u64 (span_cut a2 a0).Hi, .bool a0, .int .u64 18446744073709551615, .int .u64 64] (by kernel_rfl) ?_
 intro w188 hb189 hc190
 have hz192 := hc190.size
 have hC191 := hC152.step1 hc190 (by omega)
 have hb193 := hb154.chg1 hc190 (by omega)
 have hb194 := hb155.chg1 hc190 (by omega)
 have hb195 := hb150.chg1 hc190 (by omega)
 refine WR.fin (by kernel_rfl) ?_
 refine go hK187 ?_
 refine CW.ret ?_
 exact retC [.agg #[.int .u64 (span_cut a1 a0).Lo, .int .u64 (span_cut a1 a0).Hi, .int .u64 (span_cut a2 a0).Lo, .int .u64 (span_cut a2 a0).Hi, .bool a0, .int .u64 18446744073709551615, .int .u64 64]] (.agg #[.int .u64 (span_cut a1 a0).Lo, .int .u64 (span_cut a1 a0).Hi, .int .u64 (span_cut a2 a0).Lo, .int .u64 (span_cut a2 a0).Hi, .bool a0, .int .u64 18446744073709551615, .int .u64 64]) rfl ⟨resCell hb189 rfl (by kernel_rfl), trivial⟩ (⟨hC191, (congrArg (fun r : Twork => (.agg #[.int .u64 r.a.Lo, .int .u64 r.a.Hi, .int .u64 r.b.Lo, .int .u64 r.b.Hi, .bool r.narrow, .int .u64 r.most, .int .u64 r.size] : Value)) hs186).symm⟩)

def span_work_both (a0 : Twork)  : Bool := (letF (span_one a0.a) fun x13 => (x13 && (span_one a0.b)))

theorem span_work_both_any (a0 : Twork)   (w : World)  (_h_a0 : (0 ≤ a0.a.Lo ∧ a0.a.Lo ≤ 18446744073709551615) ∧ (0 ≤ a0.a.Hi ∧ a0.a.Hi ≤ 18446744073709551615) ∧ (0 ≤ a0.b.Lo ∧ a0.b.Lo ≤ 18446744073709551615) ∧ (0 ≤ a0.b.Hi ∧ a0.b.Hi ≤ 18446744073709551615) ∧ (0 ≤ a0.most ∧ a0.most ≤ 18446744073709551615) ∧ (0 ≤ a0.size ∧ a0.size ≤ 18446744073709551615))  : Calls Try.prog 129 #[.agg #[.int .u64 a0.a.Lo, .int .u64 a0.a.Hi, .int .u64 a0.b.Lo, .int .u64 a0.b.Hi, .bool a0.narrow, .int .u64 a0.most, .int .u64 a0.size]] w (RetV w (.bool (span_work_both a0))) := by
 have hs := span_work_both.eq_1 a0
 refine calls_of_CW Try.func129 rfl (n := 11) Try.ntmps129 (by kernel_rfl) [0] (F := [(0, .agg #[.int .u64 a0.a.Lo, .int .u64 a0.a.Hi, .int .u64 a0.b.Lo, .int .u64 a0.b.Hi, .bool a0.narrow, .int .u64 a0.most, .int .u64 a0.size])]) (by kernel_rfl) ?_
 refine CW.seq fun K1 hK1 => ?_
 refine CW.region ?_
 refine WR.box (dst := some 1) (e := 79) (v := .agg #[.int .u64 a0.a.Lo, .int .u64 a0.a.Hi, .int .u64 a0.b.Lo, .int .u64 a0.b.Hi, .bool a0.narrow, .int .u64 a0.most, .int .u64 a0.size]) (by kernel_rfl) #[.int .u64 a0.a.Lo, .int .u64 a0.a.Hi, .int .u64 a0.b.Lo, .int .u64 a0.b.Hi, .bool a0.narrow, .int .u64 a0.most, .int .u64 a0.size] (by kernel_rfl) ?_
 intro g2 w3 hN4
 have hf6 : w.heap.size ≤ g2 := hN4.fresh
 have hfr8 := hN4.fresh
 have hc7 := hN4.chg
 have hz10 := hc7.size
 have hC9 := (Chg.refl [] w).pure hc7
 have hb5 := hN4.blk
 have hg11 := hb5.lt
 refine WR.batch 1 [(1, pt g2 0)] (by kernel_rfl) ?_
 refine WR.fin (by kernel_rfl) ?_
 refine go hK1 ?_
 refine CW.seq fun K12 hK12 => ?_
 refine CW.region ?_
 refine WR.batch 1 [(1, pt g2 0), (3, pt g2 0)] (by kernel_rfl) ?_
 refine WR.load (dst := some 4) (t := 25) (o := 0) hb5 (by kernel_rfl) (.agg #[.int .u64 a0.a.Lo, .int .u64 a0.a.Hi]) (by kernel_rfl) ?_
 obtain ⟨x13, hx14⟩ : ∃ x, span_one a0.a = x := ⟨_, rfl⟩
 have hs15 := letS hx14 hs
 refine WR.call (dst := some 5) (by kernel_rfl) (retE (g := fun r : Bool => (.bool r : Value)) hx14 (span_one_any a0.a w3  ⟨(by omega), (by omega)⟩ )) ?_
 rintro _ w16 hc17 rfl
 have hz19 := hc17.size
 have hC18 := hC9.pure hc17
 have hb20 := hb5.pure hc17
 refine WR.batch 1 [(1, pt g2 0), (6, .bool x13)] (by kernel_rfl) ?_
 refine WR.mergeW 8 [(10, .bool (x13 && (span_one a0.b)))] (fun w' => Chg [] w16 w') (fun Q' => ?_) ?_
 ·
  cases hg21 : x13
  ·
   intro hM22
   refine WR.batch 4 [(10, .bool false)] (by kernel_rfl) ?_
   exact WR.keep [10] (by kernel_rfl) (hM22 _ (Chg.refl [] w16))
  ·
   intro hM22
   refine WR.batch 1 [(6, .bool true), (7, pt g2 2)] (by kernel_rfl) ?_
   refine WR.load (dst := some 8) (t := 25) (o := 2) hb20 (by kernel_rfl) (.agg #[.int .u64 a0.b.Lo, .int .u64 a0.b.Hi]) (by kernel_rfl) ?_
   refine WR.call (dst := some 9) (by kernel_rfl) (span_one_any a0.b w16  ⟨(by omega), (by omega)⟩ ) ?_
   rintro _ w23 hc24 rfl
   have hz26 := hc24.size
   have hC25 := hC18.pure hc24
   have hb27 := hb20.pure hc24
   refine WR.batch 1 [(10, .bool (span_one a0.b))] (by kernel_rfl) ?_
   exact WR.keep [10] (by kernel_rfl) (hM22 _ ((Chg.refl [] w16).pure hc24))
 intro w28 hc29
 have hz31 := hc29.size
 have hC30 := hC18.pure hc29
 have hb32 := hb20.pure hc29
 refine WR.batch 1 [(2, .bool (x13 && (span_one a0.b)))] (by kernel_rfl) ?_
 refine WR.fin (by kernel_rfl) ?_
 refine go hK12 ?_
 refine CW.ret ?_
 exact retV (.bool (x13 && (span_one a0.b))) (by kernel_rfl) (⟨hC30, (congrArg (fun r : Bool => (.bool r : Value)) hs15).symm⟩)

def span_work_ends (a0 : Twork) (a1 : Int) (a2 : Int)  : TSpan := (⟨(bAnd .u64 a1 a0.most), (bAnd .u64 a2 a0.most)⟩ : TSpan)

theorem span_work_ends_ok (a0 : Twork) (a1 : Int) (a2 : Int)  (_h_a0 : (0 ≤ a0.a.Lo ∧ a0.a.Lo ≤ 18446744073709551615) ∧ (0 ≤ a0.a.Hi ∧ a0.a.Hi ≤ 18446744073709551615) ∧ (0 ≤ a0.b.Lo ∧ a0.b.Lo ≤ 18446744073709551615) ∧ (0 ≤ a0.b.Hi ∧ a0.b.Hi ≤ 18446744073709551615) ∧ (0 ≤ a0.most ∧ a0.most ≤ 18446744073709551615) ∧ (0 ≤ a0.size ∧ a0.size ≤ 18446744073709551615)) (_h_a1 : (0 ≤ a1 ∧ a1 ≤ 18446744073709551615)) (_h_a2 : (0 ≤ a2 ∧ a2 ≤ 18446744073709551615))  : (0 ≤ (span_work_ends a0 a1 a2).Lo ∧ (span_work_ends a0 a1 a2).Lo ≤ 18446744073709551615) ∧ (0 ≤ (span_work_ends a0 a1 a2).Hi ∧ (span_work_ends a0 a1 a2).Hi ≤ 18446744073709551615) := by
 rw [span_work_ends.eq_1]
 exact (by exact (show (0 ≤ (bAnd .u64 a1 a0.most) ∧ (bAnd .u64 a1 a0.most) ≤ 18446744073709551615) ∧ (0 ≤ (bAnd .u64 a2 a0.most) ∧ (bAnd .u64 a2 a0.most) ≤ 18446744073709551615) from ⟨(wrapU64 _), (wrapU64 _)⟩))

theorem span_work_ends_any (a0 : Twork) (a1 : Int) (a2 : Int)   (w : World)  (_h_a0 : (0 ≤ a0.a.Lo ∧ a0.a.Lo ≤ 18446744073709551615) ∧ (0 ≤ a0.a.Hi ∧ a0.a.Hi ≤ 18446744073709551615) ∧ (0 ≤ a0.b.Lo ∧ a0.b.Lo ≤ 18446744073709551615) ∧ (0 ≤ a0.b.Hi ∧ a0.b.Hi ≤ 18446744073709551615) ∧ (0 ≤ a0.most ∧ a0.most ≤ 18446744073709551615) ∧ (0 ≤ a0.size ∧ a0.size ≤ 18446744073709551615)) (_h_a1 : (0 ≤ a1 ∧ a1 ≤ 18446744073709551615)) (_h_a2 : (0 ≤ a2 ∧ a2 ≤ 18446744073709551615))  : Calls Try.prog 127 #[.agg #[.int .u64 a0.a.Lo, .int .u64 a0.a.Hi, .int .u64 a0.b.Lo, .int .u64 a0.b.Hi, .bool a0.narrow, .int .u64 a0.most, .int .u64 a0.size], .int .u64 a1, .int .u64 a2] w (RetV w (.agg #[.int .u64 (span_work_ends a0 a1 a2).Lo, .int .u64 (span_work_ends a0 a1 a2).Hi])) := by
 have hs := span_work_ends.eq_1 a0 a1 a2
 refine calls_of_CW Try.func127 rfl (n := 16) Try.ntmps127 (by kernel_rfl) [0, 1, 2] (F := [(0, .agg #[.int .u64 a0.a.Lo, .int .u64 a0.a.Hi, .int .u64 a0.b.Lo, .int .u64 a0.b.Hi, .bool a0.narrow, .int .u64 a0.most, .int .u64 a0.size]), (1, .int .u64 a1), (2, .int .u64 a2)]) (by kernel_rfl) ?_
 refine CW.seq fun K1 hK1 => ?_
 refine CW.region ?_
 refine WR.box (dst := some 3) (e := 79) (v := .agg #[.int .u64 a0.a.Lo, .int .u64 a0.a.Hi, .int .u64 a0.b.Lo, .int .u64 a0.b.Hi, .bool a0.narrow, .int .u64 a0.most, .int .u64 a0.size]) (by kernel_rfl) #[.int .u64 a0.a.Lo, .int .u64 a0.a.Hi, .int .u64 a0.b.Lo, .int .u64 a0.b.Hi, .bool a0.narrow, .int .u64 a0.most, .int .u64 a0.size] (by kernel_rfl) ?_
 intro g2 w3 hN4
 have hf6 : w.heap.size ≤ g2 := hN4.fresh
 have hfr8 := hN4.fresh
 have hc7 := hN4.chg
 have hz10 := hc7.size
 have hC9 := (Chg.refl [] w).pure hc7
 have hb5 := hN4.blk
 have hg11 := hb5.lt
 refine WR.alloc (dst := some 6) (e := 25) (by kernel_rfl) #[.int .u64 0, .int .u64 0] (by kernel_rfl) ?_
 intro g12 w13 hN14
 have hl17 : g2 < g12 := Nat.lt_of_lt_of_le hb5.lt hN14.fresh
 have hf16 : w.heap.size ≤ g12 := Nat.le_trans hC9.size hN14.fresh
 have hfr19 := hN14.fresh
 have hc18 := hN14.chg
 have hz21 := hc18.size
 have hC20 := hC9.pure hc18
 have hb22 := hb5.pure hc18
 have hb15 := hN14.blk
 have hg23 := hb15.lt
 refine WR.fin (by kernel_rfl) ?_
 refine go hK1 ?_
 refine CW.seq fun K24 hK24 => ?_
 refine CW.region ?_
 refine WR.batch 2 [(2, .int .u64 a2), (3, pt g2 0), (6, pt g12 0), (7, .int .u64 a1), (8, pt g2 5)] (by kernel_rfl) ?_
 refine WR.load (dst := some 9) (t := 23) (o := 5) hb22 (by kernel_rfl) (.int .u64 a0.most) (by kernel_rfl) ?_
 refine WR.batch 3 [(6, pt g12 0), (10, .int .u64 (bAnd .u64 a1 a0.most)), (11, .int .u64 a2), (12, pt g2 5)] (by kernel_rfl) ?_
 refine WR.load (dst := some 13) (t := 23) (o := 5) hb22 (by kernel_rfl) (.int .u64 a0.most) (by kernel_rfl) ?_
 refine WR.batch 2 [(6, pt g12 0), (15, .agg #[.int .u64 (bAnd .u64 a1 a0.most), .int .u64 (bAnd .u64 a2 a0.most)])] (by kernel_rfl) ?_
 refine WR.store (t := 25) (o := 0) (v := .agg #[.int .u64 (bAnd .u64 a1 a0.most), .int .u64 (bAnd .u64 a2 a0.most)]) hb15 (by kernel_rfl) #[.int .u64 (bAnd .u64 a1 a0.most), .int .u64 (bAnd .u64 a2 a0.most)] (by kernel_rfl) ?_
 intro w25 hb26 hc27
 have hz29 := hc27.size
 have hC28 := hC20.step1 hc27 (by omega)
 have hb30 := hb22.chg1 hc27 (by omega)
 refine WR.fin (by kernel_rfl) ?_
 refine go hK24 ?_
 refine CW.ret ?_
 exact retC [.agg #[.int .u64 (bAnd .u64 a1 a0.most), .int .u64 (bAnd .u64 a2 a0.most)]] (.agg #[.int .u64 (bAnd .u64 a1 a0.most), .int .u64 (bAnd .u64 a2 a0.most)]) rfl ⟨resCell hb26 rfl (by kernel_rfl), trivial⟩ (⟨hC28, (congrArg (fun r : TSpan => (.agg #[.int .u64 r.Lo, .int .u64 r.Hi] : Value)) hs).symm⟩)

def span_work_below (a0 : Twork) (a1 : Int)  : Bool := ((bAnd .u64 (sShr .u64 a1 (IntKind.u64.wrap (a0.size - (1 : Int)))) (1 : Int)) == (1 : Int))

theorem span_work_below_any (a0 : Twork) (a1 : Int)   (w : World)  (_h_a0 : (0 ≤ a0.a.Lo ∧ a0.a.Lo ≤ 18446744073709551615) ∧ (0 ≤ a0.a.Hi ∧ a0.a.Hi ≤ 18446744073709551615) ∧ (0 ≤ a0.b.Lo ∧ a0.b.Lo ≤ 18446744073709551615) ∧ (0 ≤ a0.b.Hi ∧ a0.b.Hi ≤ 18446744073709551615) ∧ (0 ≤ a0.most ∧ a0.most ≤ 18446744073709551615) ∧ (0 ≤ a0.size ∧ a0.size ≤ 18446744073709551615)) (_h_a1 : (0 ≤ a1 ∧ a1 ≤ 18446744073709551615))  : Calls Try.prog 133 #[.agg #[.int .u64 a0.a.Lo, .int .u64 a0.a.Hi, .int .u64 a0.b.Lo, .int .u64 a0.b.Hi, .bool a0.narrow, .int .u64 a0.most, .int .u64 a0.size], .int .u64 a1] w (RetV w (.bool (span_work_below a0 a1))) := by
 have hs := span_work_below.eq_1 a0 a1
 refine calls_of_CW Try.func133 rfl (n := 12) Try.ntmps133 (by kernel_rfl) [0, 1] (F := [(0, .agg #[.int .u64 a0.a.Lo, .int .u64 a0.a.Hi, .int .u64 a0.b.Lo, .int .u64 a0.b.Hi, .bool a0.narrow, .int .u64 a0.most, .int .u64 a0.size]), (1, .int .u64 a1)]) (by kernel_rfl) ?_
 refine CW.seq fun K1 hK1 => ?_
 refine CW.region ?_
 refine WR.box (dst := some 2) (e := 79) (v := .agg #[.int .u64 a0.a.Lo, .int .u64 a0.a.Hi, .int .u64 a0.b.Lo, .int .u64 a0.b.Hi, .bool a0.narrow, .int .u64 a0.most, .int .u64 a0.size]) (by kernel_rfl) #[.int .u64 a0.a.Lo, .int .u64 a0.a.Hi, .int .u64 a0.b.Lo, .int .u64 a0.b.Hi, .bool a0.narrow, .int .u64 a0.most, .int .u64 a0.size] (by kernel_rfl) ?_
 intro g2 w3 hN4
 have hf6 : w.heap.size ≤ g2 := hN4.fresh
 have hfr8 := hN4.fresh
 have hc7 := hN4.chg
 have hz10 := hc7.size
 have hC9 := (Chg.refl [] w).pure hc7
 have hb5 := hN4.blk
 have hg11 := hb5.lt
 refine WR.batch 1 [(1, .int .u64 a1), (2, pt g2 0)] (by kernel_rfl) ?_
 refine WR.fin (by kernel_rfl) ?_
 refine go hK1 ?_
 refine CW.seq fun K12 hK12 => ?_
 refine CW.region ?_
 refine WR.batch 2 [(5, .int .u64 a1), (6, pt g2 6)] (by kernel_rfl) ?_
 refine WR.load (dst := some 7) (t := 23) (o := 6) hb5 (by kernel_rfl) (.int .u64 a0.size) (by kernel_rfl) ?_
 refine WR.batch 1 [(5, .int .u64 a1), (8, .int .u64 (IntKind.u64.wrap (a0.size - (1 : Int))))] (by kernel_rfl) ?_
 refine WR.valR (dst := some 9) (v := .int .u64 (sShr .u64 a1 (IntKind.u64.wrap (a0.size - (1 : Int))))) (w' := w3) (run_shr (kk := .u64) (k' := .u64) (x := a1) (y := (IntKind.u64.wrap (a0.size - (1 : Int)))) (by kernel_rfl) (show 0 ≤ (IntKind.u64.wrap (a0.size - (1 : Int))) ∧ (IntKind.u64.wrap (a0.size - (1 : Int))) ≤ 18446744073709551615 from (wrapU64 _)).1 w3) ?_
 refine WR.batch 3 [(4, .bool ((bAnd .u64 (sShr .u64 a1 (IntKind.u64.wrap (a0.size - (1 : Int)))) (1 : Int)) == (1 : Int)))] (by kernel_rfl) ?_
 refine WR.fin (by kernel_rfl) ?_
 refine go hK12 ?_
 refine CW.ret ?_
 exact retV (.bool ((bAnd .u64 (sShr .u64 a1 (IntKind.u64.wrap (a0.size - (1 : Int)))) (1 : Int)) == (1 : Int))) (by kernel_rfl) (⟨hC9, (congrArg (fun r : Bool => (.bool r : Value)) hs).symm⟩)

def span_work_mixed (a0 : Twork) (a1 : TSpan)  : Bool := (letF (span_work_below a0 a1.Lo) fun x25 => (letF (span_work_below a0 a1.Hi) fun x28 => (x25 != x28)))

theorem span_work_mixed_any (a0 : Twork) (a1 : TSpan)   (w : World)  (_h_a0 : (0 ≤ a0.a.Lo ∧ a0.a.Lo ≤ 18446744073709551615) ∧ (0 ≤ a0.a.Hi ∧ a0.a.Hi ≤ 18446744073709551615) ∧ (0 ≤ a0.b.Lo ∧ a0.b.Lo ≤ 18446744073709551615) ∧ (0 ≤ a0.b.Hi ∧ a0.b.Hi ≤ 18446744073709551615) ∧ (0 ≤ a0.most ∧ a0.most ≤ 18446744073709551615) ∧ (0 ≤ a0.size ∧ a0.size ≤ 18446744073709551615)) (_h_a1 : (0 ≤ a1.Lo ∧ a1.Lo ≤ 18446744073709551615) ∧ (0 ≤ a1.Hi ∧ a1.Hi ≤ 18446744073709551615))  : Calls Try.prog 132 #[.agg #[.int .u64 a0.a.Lo, .int .u64 a0.a.Hi, .int .u64 a0.b.Lo, .int .u64 a0.b.Hi, .bool a0.narrow, .int .u64 a0.most, .int .u64 a0.size], .agg #[.int .u64 a1.Lo, .int .u64 a1.Hi]] w (RetV w (.bool (span_work_mixed a0 a1))) := by
 have hs := span_work_mixed.eq_1 a0 a1
 refine calls_of_CW Try.func132 rfl (n := 14) Try.ntmps132 (by kernel_rfl) [0, 1] (F := [(0, .agg #[.int .u64 a0.a.Lo, .int .u64 a0.a.Hi, .int .u64 a0.b.Lo, .int .u64 a0.b.Hi, .bool a0.narrow, .int .u64 a0.most, .int .u64 a0.size]), (1, .agg #[.int .u64 a1.Lo, .int .u64 a1.Hi])]) (by kernel_rfl) ?_
 refine CW.seq fun K1 hK1 => ?_
 refine CW.region ?_
 refine WR.box (dst := some 2) (e := 79) (v := .agg #[.int .u64 a0.a.Lo, .int .u64 a0.a.Hi, .int .u64 a0.b.Lo, .int .u64 a0.b.Hi, .bool a0.narrow, .int .u64 a0.most, .int .u64 a0.size]) (by kernel_rfl) #[.int .u64 a0.a.Lo, .int .u64 a0.a.Hi, .int .u64 a0.b.Lo, .int .u64 a0.b.Hi, .bool a0.narrow, .int .u64 a0.most, .int .u64 a0.size] (by kernel_rfl) ?_
 intro g2 w3 hN4
 have hf6 : w.heap.size ≤ g2 := hN4.fresh
 have hfr8 := hN4.fresh
 have hc7 := hN4.chg
 have hz10 := hc7.size
 have hC9 := (Chg.refl [] w).pure hc7
 have hb5 := hN4.blk
 have hg11 := hb5.lt
 refine WR.box (dst := some 3) (e := 25) (v := .agg #[.int .u64 a1.Lo, .int .u64 a1.Hi]) (by kernel_rfl) #[.int .u64 a1.Lo, .int .u64 a1.Hi] (by kernel_rfl) ?_
 intro g12 w13 hN14
 have hl17 : g2 < g12 := Nat.lt_of_lt_of_le hb5.lt hN14.fresh
 have hf16 : w.heap.size ≤ g12 := Nat.le_trans hC9.size hN14.fresh
 have hfr19 := hN14.fresh
 have hc18 := hN14.chg
 have hz21 := hc18.size
 have hC20 := hC9.pure hc18
 have hb22 := hb5.pure hc18
 have hb15 := hN14.blk
 have hg23 := hb15.lt
 refine WR.batch 1 [(2, pt g2 0), (3, pt g12 0)] (by kernel_rfl) ?_
 refine WR.fin (by kernel_rfl) ?_
 refine go hK1 ?_
 refine CW.seq fun K24 hK24 => ?_
 refine CW.regionQ (by kernel_rfl) (by kernel_rfl) ?_
 refine WQ.load (dst := some 5) (t := 79) (o := 0) (fun _ hq => hb22.pure hq) (by kernel_rfl) (.agg #[.int .u64 a0.a.Lo, .int .u64 a0.a.Hi, .int .u64 a0.b.Lo, .int .u64 a0.b.Hi, .bool a0.narrow, .int .u64 a0.most, .int .u64 a0.size]) (by kernel_rfl) ?_
 refine WQ.val (dst := some 6) (pt g12 0) (fun _ => by kernel_rfl) ?_
 refine WQ.load (dst := some 7) (t := 23) (o := 0) (fun _ hq => hb15.pure hq) (by kernel_rfl) (.int .u64 a1.Lo) (by kernel_rfl) ?_
 obtain ⟨x25, hx26⟩ : ∃ x, span_work_below a0 a1.Lo = x := ⟨_, rfl⟩
 have hs27 := letS hx26 hs
 refine WQ.call (dst := some 8) (.bool x25) (fun _ => by kernel_rfl) (fun _ _ h h' => h.pure h') (fun wq hq => retE (g := fun r : Bool => (.bool r : Value)) hx26 (span_work_below_any a0 a1.Lo wq  ⟨(by omega), (by omega), (by omega), (by omega), (by omega), (by omega)⟩ (by omega) )) ?_
 refine WQ.load (dst := some 9) (t := 79) (o := 0) (fun _ hq => hb22.pure hq) (by kernel_rfl) (.agg #[.int .u64 a0.a.Lo, .int .u64 a0.a.Hi, .int .u64 a0.b.Lo, .int .u64 a0.b.Hi, .bool a0.narrow, .int .u64 a0.most, .int .u64 a0.size]) (by kernel_rfl) ?_
 refine WQ.val (dst := some 10) (pt g12 1) (fun _ => by kernel_rfl) ?_
 refine WQ.load (dst := some 11) (t := 23) (o := 1) (fun _ hq => hb15.pure hq) (by kernel_rfl) (.int .u64 a1.Hi) (by kernel_rfl) ?_
 obtain ⟨x28, hx29⟩ : ∃ x, span_work_below a0 a1.Hi = x := ⟨_, rfl⟩
 have hs30 := letS hx29 hs27
 refine WQ.call (dst := some 12) (.bool x28) (fun _ => by kernel_rfl) (fun _ _ h h' => h.pure h') (fun wq hq => retE (g := fun r : Bool => (.bool r : Value)) hx29 (span_work_below_any a0 a1.Hi wq  ⟨(by omega), (by omega), (by omega), (by omega), (by omega), (by omega)⟩ (by omega) )) ?_
 refine WQ.val (dst := some 13) (.bool (x25 != x28)) (fun _ => by kernel_rfl) ?_
 refine WQ.val (dst := some 4) (.bool (x25 != x28)) (fun _ => by kernel_rfl) ?_
 refine WQ.fin (by kernel_rfl) ?_
 intro w31 hc32
 have hz34 := hc32.size
 have hC33 := hC20.pure hc32
 have hb35 := hb22.pure hc32
 have hb36 := hb15.pure hc32
 refine go hK24 ?_
 refine CW.ret ?_
 exact retV (.bool (x25 != x28)) (by kernel_rfl) (⟨hC33, (congrArg (fun r : Bool => (.bool r : Value)) hs30).symm⟩)
end Go.V
