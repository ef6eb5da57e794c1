import Derived.Test.YtjiagljaipadmaaProg
import Derived.Test.YtjiagljaipadmaaSy
import Derived.Test.YtjiagljaipadmaaSz
namespace Go.V
open Go.RowKit Go.Proofs
def span_If_J0 (_a0 : Int) (_a1 : Bool) (_a2 : Bool) (_a3 : TSpan) (a4 : TSpan) (x145 : Twork) (x169 : (TSpan × TSpan)) (v100 : Int) (v101 : Int) : (TSpan × TSpan × Bool) := (if decide (a4.Hi > x145.most) then ((⟨v100, v101⟩ : TSpan), a4, true) else ((⟨v100, v101⟩ : TSpan), x169.2, true))

def span_If (a0 : Int) (a1 : Bool) (a2 : Bool) (a3 : TSpan) (a4 : TSpan)  : (TSpan × TSpan × Bool) := (if ((((decide (a0 < (17 : Int))) || (decide (a0 > (27 : Int)))) || (!(span_Right a3))) || (!(span_Right a4))) then (a3, a4, true) else (letF (span_over a1 a3 a4) fun x145 => (optF (span_work_ask x145 a0 a2) (((⟨(0 : Int), (0 : Int)⟩ : TSpan), (⟨(0 : Int), (0 : Int)⟩ : TSpan), false)) fun x169 => (if decide (a3.Hi > x145.most) then (span_If_J0 a0 a1 a2 a3 a4 x145 x169 a3.Lo a3.Hi) else (span_If_J0 a0 a1 a2 a3 a4 x145 x169 x169.1.Lo x169.1.Hi)))))

theorem span_If_J0_ok (a0 : Int) (a1 : Bool) (a2 : Bool) (a3 : TSpan) (a4 : TSpan) (x145 : Twork) (x169 : (TSpan × TSpan)) (_h_a0 : IU8 a0) (_h_a3 : IU64 a3.Lo ∧ IU64 a3.Hi) (_h_a4 : IU64 a4.Lo ∧ IU64 a4.Hi)  (v100 : Int) (v101 : Int) (_hxx145_ : x145.size = 32 ∨ x145.size = 64) (_hx147 : IU64 x145.a.Lo ∧ IU64 x145.a.Hi ∧ IU64 x145.b.Lo ∧ IU64 x145.b.Hi ∧ IU64 x145.most ∧ IU64 x145.size) (_hx171 : IU64 x169.1.Lo ∧ IU64 x169.1.Hi ∧ IU64 x169.2.Lo ∧ IU64 x169.2.Hi) (_hr_v100 : IU64 v100) (_hr_v101 : IU64 v101) : IU64 (span_If_J0 a0 a1 a2 a3 a4 x145 x169 v100 v101).1.Lo ∧ IU64 (span_If_J0 a0 a1 a2 a3 a4 x145 x169 v100 v101).1.Hi ∧ IU64 (span_If_J0 a0 a1 a2 a3 a4 x145 x169 v100 v101).2.1.Lo ∧ IU64 (span_If_J0 a0 a1 a2 a3 a4 x145 x169 v100 v101).2.1.Hi := by
 rw [span_If_J0.eq_1]
 refine iteR (p := fun r : (TSpan × TSpan × Bool) => IU64 r.1.Lo ∧ IU64 r.1.Hi ∧ IU64 r.2.1.Lo ∧ IU64 r.2.1.Hi) (fun hi1001 => ?_) (fun hi1001 => ?_)
 ·
  replace hi1001 : a4.Hi > x145.most := (of_decide_eq_true hi1001)
  exact (by exact (show IU64 v100 ∧ IU64 v101 ∧ IU64 a4.Lo ∧ IU64 a4.Hi from ⟨(by omega), (by omega), (by omega), (by omega)⟩))
 replace hi1001 : ¬ (a4.Hi > x145.most) := (of_decide_eq_false hi1001)
 exact (by exact (show IU64 v100 ∧ IU64 v101 ∧ IU64 x169.2.Lo ∧ IU64 x169.2.Hi from ⟨(by omega), (by omega), (by omega), (by omega)⟩))

theorem span_If_ok (a0 : Int) (a1 : Bool) (a2 : Bool) (a3 : TSpan) (a4 : TSpan)  (h_a0 : IU8 a0) (h_a3 : IU64 a3.Lo ∧ IU64 a3.Hi) (h_a4 : IU64 a4.Lo ∧ IU64 a4.Hi)  : IU64 (span_If a0 a1 a2 a3 a4).1.Lo ∧ IU64 (span_If a0 a1 a2 a3 a4).1.Hi ∧ IU64 (span_If a0 a1 a2 a3 a4).2.1.Lo ∧ IU64 (span_If a0 a1 a2 a3 a4).2.1.Hi := by
 rw [span_If.eq_1]
 refine iteR (p := fun r : (TSpan × TSpan × Bool) => IU64 r.1.Lo ∧ IU64 r.1.Hi ∧ IU64 r.2.1.Lo ∧ IU64 r.2.1.Hi) (fun hi1002 => ?_) (fun hi1002 => ?_)
 ·
  replace hi1002 : (((a0 < (17 : Int)) ∨ (a0 > (27 : Int))) ∨ ((span_Right a3) = false)) ∨ ((span_Right a4) = false) := (orMap (bOrT hi1002) (fun h => (orMap (bOrT h) (fun h => (orMap (bOrT h) (fun h => (of_decide_eq_true h)) (fun h => (of_decide_eq_true h)))) (fun h => (bNotT h)))) (fun h => (bNotT h)))
  exact (by exact (show IU64 a3.Lo ∧ IU64 a3.Hi ∧ IU64 a4.Lo ∧ IU64 a4.Hi from ⟨(by omega), (by omega), (by omega), (by omega)⟩))
 replace hi1002 : (((¬ (a0 < (17 : Int))) ∧ (¬ (a0 > (27 : Int)))) ∧ ((span_Right a3) = true)) ∧ ((span_Right a4) = true) := ⟨⟨⟨(of_decide_eq_false (bOrF (bOrF (bOrF hi1002).1).1).1), (of_decide_eq_false (bOrF (bOrF (bOrF hi1002).1).1).2)⟩, (bNotF (bOrF (bOrF hi1002).1).2)⟩, (bNotF (bOrF hi1002).2)⟩
 refine letR (p := fun r : (TSpan × TSpan × Bool) => IU64 r.1.Lo ∧ IU64 r.1.Hi ∧ IU64 r.2.1.Lo ∧ IU64 r.2.1.Hi) fun x145 hx146 => ?_
 have hxx145_ : x145.size = 32 ∨ x145.size = 64 := by rw [← hx146]; exact span_over_size _ _ _
 have hx147 : IU64 x145.a.Lo ∧ IU64 x145.a.Hi ∧ IU64 x145.b.Lo ∧ IU64 x145.b.Hi ∧ IU64 x145.most ∧ IU64 x145.size := by rw [← hx146]; exact span_over_ok a1 a3 a4 ⟨(by omega), (by omega)⟩ ⟨(by omega), (by omega)⟩ 
 refine optR (p := fun r : (TSpan × TSpan × Bool) => IU64 r.1.Lo ∧ IU64 r.1.Hi ∧ IU64 r.2.1.Lo ∧ IU64 r.2.1.Hi) (fun _ => ?_) (fun x169 hx170 => ?_)
 ·
  exact (by exact (show IU64 (0 : Int) ∧ IU64 (0 : Int) ∧ IU64 (0 : Int) ∧ IU64 (0 : Int) from ⟨(by omega), (by omega), (by omega), (by omega)⟩))
 have hx171 : IU64 x169.1.Lo ∧ IU64 x169.1.Hi ∧ IU64 x169.2.Lo ∧ IU64 x169.2.Hi := by exact span_work_ask_ok x145 a0 a2 ⟨(by omega), (by omega), (by omega), (by omega), (by omega), (by omega)⟩ (by omega) (by omega) _ hx170
 refine iteR (p := fun r : (TSpan × TSpan × Bool) => IU64 r.1.Lo ∧ IU64 r.1.Hi ∧ IU64 r.2.1.Lo ∧ IU64 r.2.1.Hi) (fun hi1003 => ?_) (fun hi1003 => ?_)
 ·
  replace hi1003 : a3.Hi > x145.most := (of_decide_eq_true hi1003)
  exact span_If_J0_ok a0 a1 a2 a3 a4 x145 x169 h_a0 h_a3 h_a4  a3.Lo a3.Hi hxx145_ hx147 hx171 (by omega) (by omega)
 replace hi1003 : ¬ (a3.Hi > x145.most) := (of_decide_eq_false hi1003)
 exact span_If_J0_ok a0 a1 a2 a3 a4 x145 x169 h_a0 h_a3 h_a4  x169.1.Lo x169.1.Hi hxx145_ hx147 hx171 (by omega) (by omega)

set_option maxRecDepth 100000 in
set_option maxHeartbeats 4000000 in
theorem span_If_any (a0 : Int) (a1 : Bool) (a2 : Bool) (a3 : TSpan) (a4 : TSpan)   (w : World)  (_h_a0 : IU8 a0) (_h_a3 : IU64 a3.Lo ∧ IU64 a3.Hi) (_h_a4 : IU64 a4.Lo ∧ IU64 a4.Hi)  : Calls Try.prog 20 #[.int .u8 a0, .bool a1, .bool a2, .agg #[.int .u64 a3.Lo, .int .u64 a3.Hi], .agg #[.int .u64 a4.Lo, .int .u64 a4.Hi]] w (RetV w (.tuple #[TSpan.v (span_If a0 a1 a2 a3 a4).1, TSpan.v (span_If a0 a1 a2 a3 a4).2.1, .bool (span_If a0 a1 a2 a3 a4).2.2])) := by
 have hs := span_If.eq_1 a0 a1 a2 a3 a4
 refine calls_of_CW_defers Try.func20 rfl (n := 58) Try.ntmps20 (by kernel_rfl) [0, 1, 2, 3, 4] (F := [(0, .int .u8 a0), (1, .bool a1), (2, .bool a2), (3, .agg #[.int .u64 a3.Lo, .int .u64 a3.Hi]), (4, .agg #[.int .u64 a4.Lo, .int .u64 a4.Hi])]) (by kernel_rfl) ?_
 refine CW.seq fun K1 hK1 => ?_
 refine CW.region ?_
 refine WR.box (dst := some 8) (e := 25) (v := .agg #[.int .u64 a3.Lo, .int .u64 a3.Hi]) (by kernel_rfl) #[.int .u64 a3.Lo, .int .u64 a3.Hi] (by kernel_rfl) ?_
 intro g2 w3 hN4
 have hf6 : w.heap.size ≤ g2 := hN4.fresh
 have hfr8 := hN4.fresh
 have hc7 := hN4.chg
 have hz10 := hc7.size
 have hC9 := (Chg.refl [] w).pure hc7
 have hb5 := hN4.blk
 have hg11 := hb5.lt
 refine WR.box (dst := some 9) (e := 25) (v := .agg #[.int .u64 a4.Lo, .int .u64 a4.Hi]) (by kernel_rfl) #[.int .u64 a4.Lo, .int .u64 a4.Hi] (by kernel_rfl) ?_
 intro g12 w13 hN14
 have hf16 : w.heap.size ≤ g12 := Nat.le_trans hC9.size hN14.fresh
 have hfr18 := hN14.fresh
 have hc17 := hN14.chg
 have hz20 := hc17.size
 have hC19 := hC9.pure hc17
 have hb15 := hN14.blk
 have hg21 := hb15.lt
 refine WR.alloc (dst := some 10) (e := 25) (by kernel_rfl) #[.int .u64 0, .int .u64 0] (by kernel_rfl) ?_
 intro g22 w23 hN24
 have hf26 : w.heap.size ≤ g22 := Nat.le_trans hC19.size hN24.fresh
 have hfr28 := hN24.fresh
 have hc27 := hN24.chg
 have hz30 := hc27.size
 have hC29 := hC19.pure hc27
 have hb25 := hN24.blk
 have hg31 := hb25.lt
 refine WR.alloc (dst := some 11) (e := 25) (by kernel_rfl) #[.int .u64 0, .int .u64 0] (by kernel_rfl) ?_
 intro g32 w33 hN34
 have hf36 : w.heap.size ≤ g32 := Nat.le_trans hC29.size hN34.fresh
 have hfr38 := hN34.fresh
 have hc37 := hN34.chg
 have hz40 := hc37.size
 have hC39 := hC29.pure hc37
 have hb35 := hN34.blk
 have hg41 := hb35.lt
 refine WR.alloc (dst := some 12) (e := 4) (by kernel_rfl) #[.bool false] (by kernel_rfl) ?_
 intro g42 w43 hN44
 have hf46 : w.heap.size ≤ g42 := Nat.le_trans hC39.size hN44.fresh
 have hfr48 := hN44.fresh
 have hc47 := hN44.chg
 have hz50 := hc47.size
 have hC49 := hC39.pure hc47
 have hb45 := hN44.blk
 have hg51 := hb45.lt
 refine WR.fin (by kernel_rfl) ?_
 refine go hK1 ?_
 refine CW.seq fun K52 hK52 => ?_
 refine CW.seq fun K53 hK53 => ?_
 refine CW.region ?_
 refine WR.batch 3 [(0, .int .u8 a0), (1, .bool a1), (2, .bool a2), (8, pt g2 0), (9, pt g12 0), (10, pt g22 0), (11, pt g32 0), (12, pt g42 0), (16, .bool (decide (a0 < (17 : Int))))] (by kernel_rfl) ?_
 refine WR.batch 3 [(0, .int .u8 a0), (1, .bool a1), (2, .bool a2), (8, pt g2 0), (9, pt g12 0), (10, pt g22 0), (11, pt g32 0), (12, pt g42 0), (19, .bool ((decide (a0 < (17 : Int))) || (decide (a0 > (27 : Int)))))] (by generalize decide (a0 < (17 : Int)) = b; cases b <;> kernel_rfl) ?_
 refine WR.batch 1 [(0, .int .u8 a0), (1, .bool a1), (2, .bool a2), (8, pt g2 0), (9, pt g12 0), (10, pt g22 0), (11, pt g32 0), (12, pt g42 0), (20, .bool ((decide (a0 < (17 : Int))) || (decide (a0 > (27 : Int)))))] (by kernel_rfl) ?_
 refine WR.mergeW 11 [(0, .int .u8 a0), (1, .bool a1), (2, .bool a2), (8, pt g2 0), (9, pt g12 0), (10, pt g22 0), (11, pt g32 0), (12, pt g42 0), (24, .bool (((decide (a0 < (17 : Int))) || (decide (a0 > (27 : Int)))) || (!(span_Right a3))))] (fun w' => Chg [] w43 w') (fun Q' => ?_) ?_
 ·
  cases hg54 : ((decide (a0 < (17 : Int))) || (decide (a0 > (27 : Int))))
  ·
   have hk56 := hg54
   replace hg54 : (¬ (a0 < (17 : Int))) ∧ (¬ (a0 > (27 : Int))) := ⟨(of_decide_eq_false (bOrF hg54).1), (of_decide_eq_false (bOrF hg54).2)⟩
   intro hM55
   have hb57 := (((hb5.pure hc17).pure hc27).pure hc37).pure hc47
   refine WR.load (dst := some 21) (t := 25) (o := 0) hb57 (by kernel_rfl) (.agg #[.int .u64 a3.Lo, .int .u64 a3.Hi]) (by kernel_rfl) ?_
   refine WR.call (dst := some 22) (by kernel_rfl) (span_Right_any a3 w43  ⟨(by omega), (by omega)⟩ ) ?_
   rintro _ w58 hc59 rfl
   have hz61 := hc59.size
   have hC60 := hC49.pure hc59
   refine WR.batch 2 [(0, .int .u8 a0), (1, .bool a1), (2, .bool a2), (8, pt g2 0), (9, pt g12 0), (10, pt g22 0), (11, pt g32 0), (12, pt g42 0), (24, .bool (!(span_Right a3)))] (by kernel_rfl) ?_
   exact WR.keep [0, 1, 2, 8, 9, 10, 11, 12, 24] (by kernel_rfl) (hM55 _ ((Chg.refl [] w43).pure hc59))
  ·
   have hk62 := hg54
   replace hg54 : (a0 < (17 : Int)) ∨ (a0 > (27 : Int)) := (orMap (bOrT hg54) (fun h => (of_decide_eq_true h)) (fun h => (of_decide_eq_true h)))
   intro hM55
   refine WR.batch 4 [(0, .int .u8 a0), (1, .bool a1), (2, .bool a2), (8, pt g2 0), (9, pt g12 0), (10, pt g22 0), (11, pt g32 0), (12, pt g42 0), (24, .bool true)] (by kernel_rfl) ?_
   exact WR.keep [0, 1, 2, 8, 9, 10, 11, 12, 24] (by kernel_rfl) (hM55 _ (Chg.refl [] w43))
 intro w63 hc64
 have hz66 := hc64.size
 have hC65 := hC49.pure hc64
 refine WR.batch 1 [(0, .int .u8 a0), (1, .bool a1), (2, .bool a2), (8, pt g2 0), (9, pt g12 0), (10, pt g22 0), (11, pt g32 0), (12, pt g42 0), (25, .bool (((decide (a0 < (17 : Int))) || (decide (a0 > (27 : Int)))) || (!(span_Right a3))))] (by kernel_rfl) ?_
 refine WR.mergeW 16 [(0, .int .u8 a0), (1, .bool a1), (2, .bool a2), (8, pt g2 0), (9, pt g12 0), (10, pt g22 0), (11, pt g32 0), (12, pt g42 0), (29, .bool ((((decide (a0 < (17 : Int))) || (decide (a0 > (27 : Int)))) || (!(span_Right a3))) || (!(span_Right a4))))] (fun w' => Chg [] w63 w') (fun Q' => ?_) ?_
 ·
  cases hg67 : (((decide (a0 < (17 : Int))) || (decide (a0 > (27 : Int)))) || (!(span_Right a3)))
  ·
   have hk69 := hg67
   replace hg67 : ((¬ (a0 < (17 : Int))) ∧ (¬ (a0 > (27 : Int)))) ∧ ((span_Right a3) = true) := ⟨⟨(of_decide_eq_false (bOrF (bOrF hg67).1).1), (of_decide_eq_false (bOrF (bOrF hg67).1).2)⟩, (bNotF (bOrF hg67).2)⟩
   intro hM68
   have hb70 := (((hb15.pure hc27).pure hc37).pure hc47).pure hc64
   refine WR.load (dst := some 26) (t := 25) (o := 0) hb70 (by kernel_rfl) (.agg #[.int .u64 a4.Lo, .int .u64 a4.Hi]) (by kernel_rfl) ?_
   refine WR.call (dst := some 27) (by kernel_rfl) (span_Right_any a4 w63  ⟨(by omega), (by omega)⟩ ) ?_
   rintro _ w71 hc72 rfl
   have hz74 := hc72.size
   have hC73 := hC65.pure hc72
   refine WR.batch 2 [(0, .int .u8 a0), (1, .bool a1), (2, .bool a2), (8, pt g2 0), (9, pt g12 0), (10, pt g22 0), (11, pt g32 0), (12, pt g42 0), (29, .bool (!(span_Right a4)))] (by kernel_rfl) ?_
   exact WR.keep [0, 1, 2, 8, 9, 10, 11, 12, 29] (by kernel_rfl) (hM68 _ ((Chg.refl [] w63).pure hc72))
  ·
   have hk75 := hg67
   replace hg67 : ((a0 < (17 : Int)) ∨ (a0 > (27 : Int))) ∨ ((span_Right a3) = false) := (orMap (bOrT hg67) (fun h => (orMap (bOrT h) (fun h => (of_decide_eq_true h)) (fun h => (of_decide_eq_true h)))) (fun h => (bNotT h)))
   intro hM68
   refine WR.batch 4 [(0, .int .u8 a0), (1, .bool a1), (2, .bool a2), (8, pt g2 0), (9, pt g12 0), (10, pt g22 0), (11, pt g32 0), (12, pt g42 0), (29, .bool true)] (by kernel_rfl) ?_
   exact WR.keep [0, 1, 2, 8, 9, 10, 11, 12, 29] (by kernel_rfl) (hM68 _ (Chg.refl [] w63))
 intro w76 hc77
 have hz79 := hc77.size
 have hC78 := hC65.pure hc77
 refine WR.fin (by kernel_rfl) ?_
 refine go hK53 ?_
 refine CW.cond (((((decide (a0 < (17 : Int))) || (decide (a0 > (27 : Int)))) || (!(span_Right a3))) || (!(span_Right a4)))) (by kernel_rfl) (fun ht80 => ?_) (fun ht80 => ?_)
 ·
  have hs81 := ifT ht80 hs
  replace ht80 : (((a0 < (17 : Int)) ∨ (a0 > (27 : Int))) ∨ ((span_Right a3) = false)) ∨ ((span_Right a4) = false) := (orMap (bOrT ht80) (fun h => (orMap (bOrT h) (fun h => (orMap (bOrT h) (fun h => (of_decide_eq_true h)) (fun h => (of_decide_eq_true h)))) (fun h => (bNotT h)))) (fun h => (bNotT h)))
  refine CW.seq fun K82 hK82 => ?_
  refine CW.keep [8, 9, 10, 11, 12] (F' := [(8, pt g2 0), (9, pt g12 0), (10, pt g22 0), (11, pt g32 0), (12, pt g42 0)]) (by kernel_rfl) ?_
  have hb83 := (((hb25.pure hc37).pure hc47).pure hc64).pure hc77
  refine CW.regionG 3 [some (.agg #[.int .u64 a3.Lo, .int .u64 a3.Hi]), some (.agg #[.int .u64 a4.Lo, .int .u64 a4.Hi]), none] (fun u => [(30, .agg #[.int .u64 a3.Lo, .int .u64 a3.Hi]), (31, .agg #[.int .u64 a4.Lo, .int .u64 a4.Hi]), (8, pt g2 0), (9, pt g12 0), (10, pt g22 0), (11, pt g32 0), (12, pt g42 0)]) (fun _ => by kernel_rfl) (by kernel_rfl) [(2, g22)] (fun i w' => match i with | 0 => True | 1 => True | 2 => Blk w' g22 #[.int .u64 0, .int .u64 0] 25 | _ => True) (fun j => match j with | 0 => trivial | 1 => trivial | 2 => hb83.pure (Chg.drew w76) | j + 3 => trivial) ?_ [] [] (by kernel_rfl) (fun w' => Chg [g22] w76 w') (fun i v w' => match i with | 0 => True | 1 => True | 2 => Blk w' g22 #[.int .u64 a3.Lo, .int .u64 a3.Hi] 25 | _ => True) (fun j x w hj h => absurd hj (by simp)) (by kernel_rfl) (by kernel_rfl) (by kernel_rfl) (by kernel_rfl) ((Chg.drew w76).weak (by simp)) (fun _ _ _ h h' => h.step h' (fun t ht => .inl (cL_sub t ht))) ?_ ⟨?_, ⟨?_, ⟨?_, trivial⟩⟩⟩ ?_
  ·
   intro i j w1 w2 hij h hc
   match j, hij, h with
   | 0, hij, h => exact trivial
   | 1, hij, h => exact trivial
   | 2, hij, h => exact h.chg hc (cL_not (by intro p hp e; simp only [List.mem_cons, List.not_mem_nil, or_false] at hp; rcases hp with rfl <;> (simp only at e ⊢; omega)))
   | n + 3, _, _ => trivial
  ·
   intro i j v w1 w2 hij h hc
   match j, hij, h with
   | 0, _, _ => trivial
   | 1, _, _ => trivial
   | 2, hij, h => exact h.chg hc (cL_not (by intro p hp e; simp only [List.mem_cons, List.not_mem_nil, or_false] at hp; rcases hp with rfl <;> (simp only at e ⊢; omega)))
   | n + 3, _, _ => trivial
  ·
   intro u84 w85 hW86 hPr89 hp87 hal88
   have hz91 := hW86.size
   have hC90 := hC78.step1 hW86 (by omega)
   have hb92 : Blk w85 g22 #[.int .u64 0, .int .u64 0] 25 := hPr89 2 (.inr (.one (by kernel_rfl)))
   have hb93 := ((((((hb5.pure hc17).pure hc27).pure hc37).pure hc47).pure hc64).pure hc77).chg1 hW86 (by omega)
   refine WR.load (dst := some 30) (t := 25) (o := 0) hb93 (by kernel_rfl) (.agg #[.int .u64 a3.Lo, .int .u64 a3.Hi]) (by kernel_rfl) ?_
   refine WR.fin (by kernel_rfl) ?_
   exact fun _ ha => ⟨Chg.refl _ _, _, ha, ⟨⟨fun h => absurd h (by decide), alNone (by decide)⟩, rfl⟩⟩
  ·
   intro u94 w95 hW96 _ hp97 hal98
   have hz101 := hW96.size
   have hC100 := hC78.step1 hW96 (by omega)
   have hb102 := (((((hb15.pure hc27).pure hc37).pure hc47).pure hc64).pure hc77).chg1 hW96 (by omega)
   refine WR.load (dst := some 31) (t := 25) (o := 0) hb102 (by kernel_rfl) (.agg #[.int .u64 a4.Lo, .int .u64 a4.Hi]) (by kernel_rfl) ?_
   refine WR.fin (by kernel_rfl) ?_
   exact fun _ ha => ⟨Chg.refl _ _, _, ha, ⟨⟨fun h => absurd h (by decide), alNone (by decide)⟩, rfl⟩⟩
  ·
   intro u103 w104 hW105 hPr108 hp106 hal107
   have hz110 := hW105.size
   have hC109 := hC78.step1 hW105 (by omega)
   have hb111 : Blk w104 g22 #[.int .u64 0, .int .u64 0] 25 := hPr108 2 (.inl rfl)
   refine WR.store (t := 25) (o := 0) (v := .agg #[.int .u64 a3.Lo, .int .u64 a3.Hi]) hb111 (by kernel_rfl) #[.int .u64 a3.Lo, .int .u64 a3.Hi] (by kernel_rfl) ?_
   intro w112 hb113 hc114
   have hz116 := hc114.size
   have hC115 := hC109.step1 hc114 (by omega)
   refine WR.fin (by kernel_rfl) ?_
   exact fun _ ha => ⟨hc114, undef, ha, ⟨⟨fun h => absurd h (by decide), alNone (by decide)⟩, hb113⟩⟩
  intro u117 w118 hW119 hr120 _ _
  have hz124 := hW119.size
  have hC123 := hC78.step1 hW119 (by omega)
  have hp125 : Blk w118 g22 #[.int .u64 a3.Lo, .int .u64 a3.Hi] 25 := hr120 2 (by omega) (by kernel_rfl)
  refine WR.keep [10, 11, 12, 31] (F' := [(10, pt g22 0), (11, pt g32 0), (12, pt g42 0), (31, .agg #[.int .u64 a4.Lo, .int .u64 a4.Hi])]) (by kernel_rfl) ?_
  have hb129 := (((hb35.pure hc47).pure hc64).pure hc77).chg1 hW119 (by omega)
  refine WR.store (t := 25) (o := 0) (v := .agg #[.int .u64 a4.Lo, .int .u64 a4.Hi]) hb129 (by kernel_rfl) #[.int .u64 a4.Lo, .int .u64 a4.Hi] (by kernel_rfl) ?_
  intro w126 hb127 hc128
  have hz131 := hc128.size
  have hC130 := hC123.step1 hc128 (by omega)
  have hb135 := (((hb45.pure hc64).pure hc77).chg1 hW119 (by omega)).chg1 hc128 (by omega)
  refine WR.store (t := 4) (o := 0) (v := .bool true) hb135 (by kernel_rfl) #[.bool true] (by kernel_rfl) ?_
  intro w132 hb133 hc134
  have hz137 := hc134.size
  have hC136 := hC130.step1 hc134 (by omega)
  refine WR.fin (by kernel_rfl) ?_
  refine go hK82 ?_
  refine CW.ret ?_
  have hb138 := (hp125.chg1 hc128 (by omega)).chg1 hc134 (by omega)
  have hb139 := hb127.chg1 hc134 (by omega)
  exact retCD [.agg #[.int .u64 a3.Lo, .int .u64 a3.Hi], .agg #[.int .u64 a4.Lo, .int .u64 a4.Hi], .bool true] _ rfl ⟨resCell hb138 rfl (by kernel_rfl), resCell hb139 rfl (by kernel_rfl), resCell hb133 rfl (by kernel_rfl), trivial⟩ (⟨hC136, (congrArg (fun r : (TSpan × TSpan × Bool) => (.tuple #[TSpan.v r.1, TSpan.v r.2.1, .bool r.2.2] : Value)) hs81).symm⟩)
 have hs140 := ifF ht80 hs
 replace ht80 : (((¬ (a0 < (17 : Int))) ∧ (¬ (a0 > (27 : Int)))) ∧ ((span_Right a3) = true)) ∧ ((span_Right a4) = true) := ⟨⟨⟨(of_decide_eq_false (bOrF (bOrF (bOrF ht80).1).1).1), (of_decide_eq_false (bOrF (bOrF (bOrF ht80).1).1).2)⟩, (bNotF (bOrF (bOrF ht80).1).2)⟩, (bNotF (bOrF ht80).2)⟩
 refine CW.skip ?_
 refine go hK52 ?_
 refine CW.seq fun K141 hK141 => ?_
 refine CW.region ?_
 refine WR.batch 1 [(0, .int .u8 a0), (1, .bool a1), (2, .bool a2), (8, pt g2 0), (9, pt g12 0), (10, pt g22 0), (11, pt g32 0), (12, pt g42 0), (32, .func (.func 56) #[] #[pt g22 0, pt g32 0, pt g42 0])] (by kernel_rfl) ?_
 refine WR.defer (dst := none) (d := { target := .fn (.func 56) #[pt g22 0, pt g32 0, pt g42 0], args := #[] }) (by kernel_rfl) ?_
 refine WR.fin (by kernel_rfl) ?_
 refine go hK141 ?_
 refine CW.seq fun K142 hK142 => ?_
 refine CW.region ?_
 refine WR.batch 1 [(0, .int .u8 a0), (2, .bool a2), (8, pt g2 0), (9, pt g12 0), (10, pt g22 0), (11, pt g32 0), (12, pt g42 0), (33, .bool a1)] (by kernel_rfl) ?_
 have hb143 := (((((hb5.pure hc17).pure hc27).pure hc37).pure hc47).pure hc64).pure hc77
 refine WR.load (dst := some 34) (t := 25) (o := 0) hb143 (by kernel_rfl) (.agg #[.int .u64 a3.Lo, .int .u64 a3.Hi]) (by kernel_rfl) ?_
 have hb144 := ((((hb15.pure hc27).pure hc37).pure hc47).pure hc64).pure hc77
 refine WR.load (dst := some 35) (t := 25) (o := 0) hb144 (by kernel_rfl) (.agg #[.int .u64 a4.Lo, .int .u64 a4.Hi]) (by kernel_rfl) ?_
 obtain ⟨x145, hx146⟩ : ∃ x, span_over a1 a3 a4 = x := ⟨_, rfl⟩
 have hs148 := letS hx146 hs140
 have hxx145_ : x145.size = 32 ∨ x145.size = 64 := by rw [← hx146]; exact span_over_size _ _ _
 have hx147 : IU64 x145.a.Lo ∧ IU64 x145.a.Hi ∧ IU64 x145.b.Lo ∧ IU64 x145.b.Hi ∧ IU64 x145.most ∧ IU64 x145.size := by rw [← hx146]; exact span_over_ok a1 a3 a4 ⟨(by omega), (by omega)⟩ ⟨(by omega), (by omega)⟩ 
 refine WR.call (dst := some 36) (by kernel_rfl) (retE (g := Twork.v) hx146 (span_over_any a1 a3 a4 w76  ⟨(by omega), (by omega)⟩ ⟨(by omega), (by omega)⟩ )) ?_
 rintro _ w149 hc150 rfl
 have hz152 := hc150.size
 have hC151 := hC78.pure hc150
 refine WR.alloc (dst := some 13) (e := 79) (by kernel_rfl) #[.int .u64 0, .int .u64 0, .int .u64 0, .int .u64 0, .bool false, .int .u64 0, .int .u64 0] (by kernel_rfl) ?_
 intro g153 w154 hN155
 have hf157 : w.heap.size ≤ g153 := Nat.le_trans hC151.size hN155.fresh
 have hfr159 := hN155.fresh
 have hc158 := hN155.chg
 have hz161 := hc158.size
 have hC160 := hC151.pure hc158
 have hb156 := hN155.blk
 have hg162 := hb156.lt
 refine WR.store (t := 79) (o := 0) (v := .agg #[.int .u64 x145.a.Lo, .int .u64 x145.a.Hi, .int .u64 x145.b.Lo, .int .u64 x145.b.Hi, .bool x145.narrow, .int .u64 x145.most, .int .u64 x145.size]) hb156 (by kernel_rfl) #[.int .u64 x145.a.Lo, .int .u64 x145.a.Hi, .int .u64 x145.b.Lo, .int .u64 x145.b.Hi, .bool x145.narrow, .int .u64 x145.most, .int .u64 x145.size] (by kernel_rfl) ?_
 intro w163 hb164 hc165
 have hz167 := hc165.size
 have hC166 := hC160.step1 hc165 (by omega)
 refine WR.fin (by kernel_rfl) ?_
 refine go hK142 ?_
 refine CW.seq fun K168 hK168 => ?_
 refine CW.region ?_
 refine WR.load (dst := some 38) (t := 79) (o := 0) hb164 (by kernel_rfl) (.agg #[.int .u64 x145.a.Lo, .int .u64 x145.a.Hi, .int .u64 x145.b.Lo, .int .u64 x145.b.Hi, .bool x145.narrow, .int .u64 x145.most, .int .u64 x145.size]) (by kernel_rfl) ?_
 refine WR.batch 2 [(8, pt g2 0), (9, pt g12 0), (10, pt g22 0), (11, pt g32 0), (12, pt g42 0), (13, pt g153 0), (38, .agg #[.int .u64 x145.a.Lo, .int .u64 x145.a.Hi, .int .u64 x145.b.Lo, .int .u64 x145.b.Hi, .bool x145.narrow, .int .u64 x145.most, .int .u64 x145.size]), (39, .int .u8 a0), (40, .bool a2)] (by kernel_rfl) ?_
 rcases hx170 : span_work_ask x145 a0 a2 with _ | x169
 ·
  have hs174 := optN hx170 hs148
  refine WR.callX (dst := some 41) (by kernel_rfl) (retP_no (g := (fun r : (TSpan × TSpan) => (.tuple #[TSpan.v r.1, TSpan.v r.2] : Value))) hx170 (span_work_ask_any x145 a0 a2 w163  ⟨(by omega), (by omega), (by omega), (by omega), (by omega), (by omega)⟩ (by omega) (by omega))) ?_
  intro w172 hc173
  have hz176 := hc173.size
  have hC175 := hC166.pure hc173
  have hb177 := (((((((hb25.pure hc37).pure hc47).pure hc64).pure hc77).pure hc150).pure hc158).chg1 hc165 (by omega)).pure hc173
  have hb178 := ((((((hb35.pure hc47).pure hc64).pure hc77).pure hc150).pure hc158).chg1 hc165 (by omega)).pure hc173
  have hb179 := (((((hb45.pure hc64).pure hc77).pure hc150).pure hc158).chg1 hc165 (by omega)).pure hc173
  exact panicD (P := Try.prog) (fn := Try.f20) (d := { target := .fn (.func 56) #[pt g22 0, pt g32 0, pt g42 0], args := #[] }) (fv := .func 56) (cap := #[pt g22 0, pt g32 0, pt g42 0]) (f := 56) (args := #[pt g22 0, pt g32 0, pt g42 0]) (M := fun w1 => Chg [g22, g32, g42] w172 w1 ∧ Blk w1 g22 #[.int .u64 0, .int .u64 0] 25 ∧ Blk w1 g32 #[.int .u64 0, .int .u64 0] 25 ∧ Blk w1 g42 #[.bool false] 4) (x := .iface 76 (.agg #[])) rfl (by kernel_rfl) (span_If_1_pan (⟨(0 : Int), (0 : Int)⟩ : TSpan) (⟨(0 : Int), (0 : Int)⟩ : TSpan) false g22 g32 g42 w172 hb177 hb178 hb179 (by omega) (by omega) (by omega)) (fun _ => [.agg #[.int .u64 0, .int .u64 0], .agg #[.int .u64 0, .int .u64 0], .bool false]) (fun w1 hM => ⟨resCell hM.2.1 rfl (by kernel_rfl), resCell hM.2.2.1 rfl (by kernel_rfl), resCell hM.2.2.2 rfl (by kernel_rfl), trivial⟩) (fun w1 hM => ⟨hC175.step hM.1 (by intro t ht; simp only [List.mem_cons, List.not_mem_nil, or_false] at ht; (rcases ht with rfl | rfl | rfl) <;> (first | exact .inr (by omega) | exact .inl (by simp))), (congrArg (fun r : (TSpan × TSpan × Bool) => (.tuple #[TSpan.v r.1, TSpan.v r.2.1, .bool r.2.2] : Value)) hs174).symm⟩)
 have hs180 := optS hx170 hs148
 have hx171 : IU64 x169.1.Lo ∧ IU64 x169.1.Hi ∧ IU64 x169.2.Lo ∧ IU64 x169.2.Hi := by exact span_work_ask_ok x145 a0 a2 ⟨(by omega), (by omega), (by omega), (by omega), (by omega), (by omega)⟩ (by omega) (by omega) _ hx170
 refine WR.call (dst := some 41) (by kernel_rfl) (retP_yes (g := (fun r : (TSpan × TSpan) => (.tuple #[TSpan.v r.1, TSpan.v r.2] : Value))) hx170 (span_work_ask_any x145 a0 a2 w163  ⟨(by omega), (by omega), (by omega), (by omega), (by omega), (by omega)⟩ (by omega) (by omega))) ?_
 rintro _ w181 hc182 rfl
 have hz184 := hc182.size
 have hC183 := hC166.pure hc182
 refine WR.batch 3 [(8, pt g2 0), (9, pt g12 0), (10, pt g22 0), (11, pt g32 0), (12, pt g42 0), (13, pt g153 0), (42, .agg #[.int .u64 x169.1.Lo, .int .u64 x169.1.Hi]), (43, .agg #[.int .u64 x169.2.Lo, .int .u64 x169.2.Hi])] (by kernel_rfl) ?_
 have hb188 := (((((((hb25.pure hc37).pure hc47).pure hc64).pure hc77).pure hc150).pure hc158).chg1 hc165 (by omega)).pure hc182
 refine WR.store (t := 25) (o := 0) (v := .agg #[.int .u64 x169.1.Lo, .int .u64 x169.1.Hi]) hb188 (by kernel_rfl) #[.int .u64 x169.1.Lo, .int .u64 x169.1.Hi] (by kernel_rfl) ?_
 intro w185 hb186 hc187
 have hz190 := hc187.size
 have hC189 := hC183.step1 hc187 (by omega)
 have hb194 := (((((((hb35.pure hc47).pure hc64).pure hc77).pure hc150).pure hc158).chg1 hc165 (by omega)).pure hc182).chg1 hc187 (by omega)
 refine WR.store (t := 25) (o := 0) (v := .agg #[.int .u64 x169.2.Lo, .int .u64 x169.2.Hi]) hb194 (by kernel_rfl) #[.int .u64 x169.2.Lo, .int .u64 x169.2.Hi] (by kernel_rfl) ?_
 intro w191 hb192 hc193
 have hz196 := hc193.size
 have hC195 := hC189.step1 hc193 (by omega)
 refine WR.fin (by kernel_rfl) ?_
 refine go hK168 ?_
 refine CW.seq fun K197 hK197 => ?_
 refine CW.seq fun K198 hK198 => ?_
 refine CW.region ?_
 refine WR.batch 1 [(8, pt g2 0), (9, pt g12 0), (10, pt g22 0), (11, pt g32 0), (12, pt g42 0), (13, pt g153 0), (44, pt g2 1)] (by kernel_rfl) ?_
 have hb199 := (((((hb143.pure hc150).pure hc158).chg1 hc165 (by omega)).pure hc182).chg1 hc187 (by omega)).chg1 hc193 (by omega)
 refine WR.load (dst := some 45) (t := 23) (o := 1) hb199 (by kernel_rfl) (.int .u64 a3.Hi) (by kernel_rfl) ?_
 refine WR.batch 1 [(8, pt g2 0), (9, pt g12 0), (10, pt g22 0), (11, pt g32 0), (12, pt g42 0), (13, pt g153 0), (45, .int .u64 a3.Hi), (46, pt g153 5)] (by kernel_rfl) ?_
 have hb200 := ((hb164.pure hc182).chg1 hc187 (by omega)).chg1 hc193 (by omega)
 refine WR.load (dst := some 47) (t := 23) (o := 5) hb200 (by kernel_rfl) (.int .u64 x145.most) (by kernel_rfl) ?_
 refine WR.batch 1 [(8, pt g2 0), (9, pt g12 0), (10, pt g22 0), (11, pt g32 0), (12, pt g42 0), (13, pt g153 0), (48, .bool (decide (a3.Hi > x145.most)))] (by kernel_rfl) ?_
 refine WR.fin (by kernel_rfl) ?_
 refine go hK198 ?_
 refine CW.join hK197 (fun F' w' => ∃ (v100 : Int) (v101 : Int), F' = [(9, pt g12 0), (10, pt g22 0), (11, pt g32 0), (12, pt g42 0), (13, pt g153 0)] ∧ Chg [] w w' ∧ Blk w' g2 #[.int .u64 a3.Lo, .int .u64 a3.Hi] 25 ∧ Blk w' g12 #[.int .u64 a4.Lo, .int .u64 a4.Hi] 25 ∧ Blk w' g22 #[.int .u64 v100, .int .u64 v101] 25 ∧ Blk w' g32 #[.int .u64 x169.2.Lo, .int .u64 x169.2.Hi] 25 ∧ Blk w' g42 #[.bool false] 4 ∧ Blk w' g153 #[.int .u64 x145.a.Lo, .int .u64 x145.a.Hi, .int .u64 x145.b.Lo, .int .u64 x145.b.Hi, .bool x145.narrow, .int .u64 x145.most, .int .u64 x145.size] 79 ∧ (IU64 v100) ∧ (IU64 v101) ∧ (span_If a0 a1 a2 a3 a4) = span_If_J0 a0 a1 a2 a3 a4 x145 x169 v100 v101) ?_ ?_
 ·
  refine CW.cond (decide (a3.Hi > x145.most)) (by kernel_rfl) (fun ht210 => ?_) (fun ht210 => ?_)
  ·
   have hs211 := ifT ht210 hs180
   replace ht210 : a3.Hi > x145.most := (of_decide_eq_true ht210)
   refine CW.region ?_
   refine WR.load (dst := some 49) (t := 25) (o := 0) hb199 (by kernel_rfl) (.agg #[.int .u64 a3.Lo, .int .u64 a3.Hi]) (by kernel_rfl) ?_
   have hb215 := hb186.chg1 hc193 (by omega)
   refine WR.store (t := 25) (o := 0) (v := .agg #[.int .u64 a3.Lo, .int .u64 a3.Hi]) hb215 (by kernel_rfl) #[.int .u64 a3.Lo, .int .u64 a3.Hi] (by kernel_rfl) ?_
   intro w212 hb213 hc214
   have hz217 := hc214.size
   have hC216 := hC195.step1 hc214 (by omega)
   refine WR.fin (by kernel_rfl) ?_
   have hb218 := hb199.chg1 hc214 (by omega)
   have hb219 := ((((((hb144.pure hc150).pure hc158).chg1 hc165 (by omega)).pure hc182).chg1 hc187 (by omega)).chg1 hc193 (by omega)).chg1 hc214 (by omega)
   have hb220 := hb192.chg1 hc214 (by omega)
   have hb221 := ((((((((hb45.pure hc64).pure hc77).pure hc150).pure hc158).chg1 hc165 (by omega)).pure hc182).chg1 hc187 (by omega)).chg1 hc193 (by omega)).chg1 hc214 (by omega)
   have hb222 := hb200.chg1 hc214 (by omega)
   exact fun _ ha => ⟨_, ha.keep [9, 10, 11, 12, 13] (F' := [(9, pt g12 0), (10, pt g22 0), (11, pt g32 0), (12, pt g42 0), (13, pt g153 0)]) (by kernel_rfl), a3.Lo, a3.Hi, rfl, hC216, hb218, hb219, hb213, hb220, hb221, hb222, (by omega), (by omega), hs211⟩
  have hs223 := ifF ht210 hs180
  replace ht210 : ¬ (a3.Hi > x145.most) := (of_decide_eq_false ht210)
  refine CW.skip ?_
  have hb224 := (((((hb144.pure hc150).pure hc158).chg1 hc165 (by omega)).pure hc182).chg1 hc187 (by omega)).chg1 hc193 (by omega)
  have hb225 := hb186.chg1 hc193 (by omega)
  have hb226 := (((((((hb45.pure hc64).pure hc77).pure hc150).pure hc158).chg1 hc165 (by omega)).pure hc182).chg1 hc187 (by omega)).chg1 hc193 (by omega)
  exact fun _ ha => ⟨_, ha.keep [9, 10, 11, 12, 13] (F' := [(9, pt g12 0), (10, pt g22 0), (11, pt g32 0), (12, pt g42 0), (13, pt g153 0)]) (by kernel_rfl), x169.1.Lo, x169.1.Hi, rfl, hC195, hb199, hb224, hb225, hb192, hb226, hb200, (by omega), (by omega), hs223⟩
 rintro _ w203 ⟨v100, v101, rfl, hC201, hb204, hb205, hb206, hb207, hb208, hb209, hr_v100, hr_v101, hsj202⟩
 have hz227 := hC201.size
 have hs228 := hsj202.trans (span_If_J0.eq_1 _ _ _ _ _ _ _ _ _)
 have hg229 := hb204.lt
 have hg230 := hb205.lt
 have hg231 := hb206.lt
 have hg232 := hb207.lt
 have hg233 := hb208.lt
 have hg234 := hb209.lt
 refine CW.seq fun K235 hK235 => ?_
 refine CW.seq fun K236 hK236 => ?_
 refine CW.region ?_
 refine WR.batch 1 [(9, pt g12 0), (10, pt g22 0), (11, pt g32 0), (12, pt g42 0), (13, pt g153 0), (50, pt g12 1)] (by kernel_rfl) ?_
 refine WR.load (dst := some 51) (t := 23) (o := 1) hb205 (by kernel_rfl) (.int .u64 a4.Hi) (by kernel_rfl) ?_
 refine WR.batch 1 [(9, pt g12 0), (10, pt g22 0), (11, pt g32 0), (12, pt g42 0), (51, .int .u64 a4.Hi), (52, pt g153 5)] (by kernel_rfl) ?_
 refine WR.load (dst := some 53) (t := 23) (o := 5) hb209 (by kernel_rfl) (.int .u64 x145.most) (by kernel_rfl) ?_
 refine WR.batch 1 [(9, pt g12 0), (10, pt g22 0), (11, pt g32 0), (12, pt g42 0), (54, .bool (decide (a4.Hi > x145.most)))] (by kernel_rfl) ?_
 refine WR.fin (by kernel_rfl) ?_
 refine go hK236 ?_
 refine CW.cond (decide (a4.Hi > x145.most)) (by kernel_rfl) (fun ht237 => ?_) (fun ht237 => ?_)
 ·
  have hs238 := ifT ht237 hs228
  replace ht237 : a4.Hi > x145.most := (of_decide_eq_true ht237)
  refine CW.region ?_
  refine WR.load (dst := some 55) (t := 25) (o := 0) hb205 (by kernel_rfl) (.agg #[.int .u64 a4.Lo, .int .u64 a4.Hi]) (by kernel_rfl) ?_
  refine WR.store (t := 25) (o := 0) (v := .agg #[.int .u64 a4.Lo, .int .u64 a4.Hi]) hb207 (by kernel_rfl) #[.int .u64 a4.Lo, .int .u64 a4.Hi] (by kernel_rfl) ?_
  intro w239 hb240 hc241
  have hz243 := hc241.size
  have hC242 := hC201.step1 hc241 (by omega)
  refine WR.fin (by kernel_rfl) ?_
  refine go hK235 ?_
  refine CW.seq fun K244 hK244 => ?_
  refine CW.keep [10, 11, 12] (F' := [(10, pt g22 0), (11, pt g32 0), (12, pt g42 0)]) (by kernel_rfl) ?_
  have hb245 := hb206.chg1 hc241 (by omega)
  refine CW.regionG 3 [some (.agg #[.int .u64 v100, .int .u64 v101]), some (.agg #[.int .u64 a4.Lo, .int .u64 a4.Hi]), none] (fun u => [(56, .agg #[.int .u64 v100, .int .u64 v101]), (57, .agg #[.int .u64 a4.Lo, .int .u64 a4.Hi]), (10, pt g22 0), (11, pt g32 0), (12, pt g42 0)]) (fun _ => by kernel_rfl) (by kernel_rfl) [(2, g22)] (fun i w' => match i with | 0 => True | 1 => True | 2 => Blk w' g22 #[.int .u64 v100, .int .u64 v101] 25 | _ => True) (fun j => match j with | 0 => trivial | 1 => trivial | 2 => hb245.pure (Chg.drew w239) | j + 3 => trivial) ?_ [] [] (by kernel_rfl) (fun w' => Chg [g22] w239 w') (fun i v w' => match i with | 0 => True | 1 => True | 2 => Blk w' g22 #[.int .u64 v100, .int .u64 v101] 25 | _ => True) (fun j x w hj h => absurd hj (by simp)) (by kernel_rfl) (by kernel_rfl) (by kernel_rfl) (by kernel_rfl) ((Chg.drew w239).weak (by simp)) (fun _ _ _ h h' => h.step h' (fun t ht => .inl (cL_sub t ht))) ?_ ⟨?_, ⟨?_, ⟨?_, trivial⟩⟩⟩ ?_
  ·
   intro i j w1 w2 hij h hc
   match j, hij, h with
   | 0, hij, h => exact trivial
   | 1, hij, h => exact trivial
   | 2, hij, h => exact h.chg hc (cL_not (by intro p hp e; simp only [List.mem_cons, List.not_mem_nil, or_false] at hp; rcases hp with rfl <;> (simp only at e ⊢; omega)))
   | n + 3, _, _ => trivial
  ·
   intro i j v w1 w2 hij h hc
   match j, hij, h with
   | 0, _, _ => trivial
   | 1, _, _ => trivial
   | 2, hij, h => exact h.chg hc (cL_not (by intro p hp e; simp only [List.mem_cons, List.not_mem_nil, or_false] at hp; rcases hp with rfl <;> (simp only at e ⊢; omega)))
   | n + 3, _, _ => trivial
  ·
   intro u246 w247 hW248 hPr251 hp249 hal250
   have hz253 := hW248.size
   have hC252 := hC242.step1 hW248 (by omega)
   have hb254 : Blk w247 g22 #[.int .u64 v100, .int .u64 v101] 25 := hPr251 2 (.inr (.one (by kernel_rfl)))
   refine WR.load (dst := some 56) (t := 25) (o := 0) hb254 (by kernel_rfl) (.agg #[.int .u64 v100, .int .u64 v101]) (by kernel_rfl) ?_
   refine WR.fin (by kernel_rfl) ?_
   exact fun _ ha => ⟨Chg.refl _ _, _, ha, ⟨⟨fun h => absurd h (by decide), alNone (by decide)⟩, rfl⟩⟩
  ·
   intro u255 w256 hW257 _ hp258 hal259
   have hz262 := hW257.size
   have hC261 := hC242.step1 hW257 (by omega)
   have hb263 := hb240.chg1 hW257 (by omega)
   refine WR.load (dst := some 57) (t := 25) (o := 0) hb263 (by kernel_rfl) (.agg #[.int .u64 a4.Lo, .int .u64 a4.Hi]) (by kernel_rfl) ?_
   refine WR.fin (by kernel_rfl) ?_
   exact fun _ ha => ⟨Chg.refl _ _, _, ha, ⟨⟨fun h => absurd h (by decide), alNone (by decide)⟩, rfl⟩⟩
  ·
   intro u264 w265 hW266 hPr269 hp267 hal268
   have hz271 := hW266.size
   have hC270 := hC242.step1 hW266 (by omega)
   have hb272 : Blk w265 g22 #[.int .u64 v100, .int .u64 v101] 25 := hPr269 2 (.inl rfl)
   refine WR.store (t := 25) (o := 0) (v := .agg #[.int .u64 v100, .int .u64 v101]) hb272 (by kernel_rfl) #[.int .u64 v100, .int .u64 v101] (by kernel_rfl) ?_
   intro w273 hb274 hc275
   have hz277 := hc275.size
   have hC276 := hC270.step1 hc275 (by omega)
   refine WR.fin (by kernel_rfl) ?_
   exact fun _ ha => ⟨hc275, undef, ha, ⟨⟨fun h => absurd h (by decide), alNone (by decide)⟩, hb274⟩⟩
  intro u278 w279 hW280 hr281 _ _
  have hz285 := hW280.size
  have hC284 := hC242.step1 hW280 (by omega)
  have hp286 : Blk w279 g22 #[.int .u64 v100, .int .u64 v101] 25 := hr281 2 (by omega) (by kernel_rfl)
  refine WR.keep [10, 11, 12, 57] (F' := [(10, pt g22 0), (11, pt g32 0), (12, pt g42 0), (57, .agg #[.int .u64 a4.Lo, .int .u64 a4.Hi])]) (by kernel_rfl) ?_
  have hb290 := hb240.chg1 hW280 (by omega)
  refine WR.store (t := 25) (o := 0) (v := .agg #[.int .u64 a4.Lo, .int .u64 a4.Hi]) hb290 (by kernel_rfl) #[.int .u64 a4.Lo, .int .u64 a4.Hi] (by kernel_rfl) ?_
  intro w287 hb288 hc289
  have hz292 := hc289.size
  have hC291 := hC284.step1 hc289 (by omega)
  have hb296 := ((hb208.chg1 hc241 (by omega)).chg1 hW280 (by omega)).chg1 hc289 (by omega)
  refine WR.store (t := 4) (o := 0) (v := .bool true) hb296 (by kernel_rfl) #[.bool true] (by kernel_rfl) ?_
  intro w293 hb294 hc295
  have hz298 := hc295.size
  have hC297 := hC291.step1 hc295 (by omega)
  refine WR.fin (by kernel_rfl) ?_
  refine go hK244 ?_
  refine CW.ret ?_
  have hb299 := (hp286.chg1 hc289 (by omega)).chg1 hc295 (by omega)
  have hb300 := hb288.chg1 hc295 (by omega)
  exact retD (P := Try.prog) (fn := Try.f20) (d := { target := .fn (.func 56) #[pt g22 0, pt g32 0, pt g42 0], args := #[] }) (fv := .func 56) (cap := #[pt g22 0, pt g32 0, pt g42 0]) (f := 56) (args := #[pt g22 0, pt g32 0, pt g42 0]) (M := fun w1 => Chg [] w293 w1) rfl (by kernel_rfl) (span_If_1_ret g22 g32 g42 w293) (fun _ => [.agg #[.int .u64 v100, .int .u64 v101], .agg #[.int .u64 a4.Lo, .int .u64 a4.Hi], .bool true]) (fun w1 hM => ⟨resCell (hb299.pure hM) rfl (by kernel_rfl), resCell (hb300.pure hM) rfl (by kernel_rfl), resCell (hb294.pure hM) rfl (by kernel_rfl), trivial⟩) (fun w1 hM => ⟨(hC297.pure hM), (congrArg (fun r : (TSpan × TSpan × Bool) => (.tuple #[TSpan.v r.1, TSpan.v r.2.1, .bool r.2.2] : Value)) hs238).symm⟩)
 have hs301 := ifF ht237 hs228
 replace ht237 : ¬ (a4.Hi > x145.most) := (of_decide_eq_false ht237)
 refine CW.skip ?_
 refine go hK235 ?_
 refine CW.seq fun K302 hK302 => ?_
 refine CW.keep [10, 11, 12] (F' := [(10, pt g22 0), (11, pt g32 0), (12, pt g42 0)]) (by kernel_rfl) ?_
 refine CW.regionG 3 [some (.agg #[.int .u64 v100, .int .u64 v101]), some (.agg #[.int .u64 x169.2.Lo, .int .u64 x169.2.Hi]), none] (fun u => [(56, .agg #[.int .u64 v100, .int .u64 v101]), (57, .agg #[.int .u64 x169.2.Lo, .int .u64 x169.2.Hi]), (10, pt g22 0), (11, pt g32 0), (12, pt g42 0)]) (fun _ => by kernel_rfl) (by kernel_rfl) [(2, g22)] (fun i w' => match i with | 0 => True | 1 => True | 2 => Blk w' g22 #[.int .u64 v100, .int .u64 v101] 25 | _ => True) (fun j => match j with | 0 => trivial | 1 => trivial | 2 => hb206.pure (Chg.drew w203) | j + 3 => trivial) ?_ [] [] (by kernel_rfl) (fun w' => Chg [g22] w203 w') (fun i v w' => match i with | 0 => True | 1 => True | 2 => Blk w' g22 #[.int .u64 v100, .int .u64 v101] 25 | _ => True) (fun j x w hj h => absurd hj (by simp)) (by kernel_rfl) (by kernel_rfl) (by kernel_rfl) (by kernel_rfl) ((Chg.drew w203).weak (by simp)) (fun _ _ _ h h' => h.step h' (fun t ht => .inl (cL_sub t ht))) ?_ ⟨?_, ⟨?_, ⟨?_, trivial⟩⟩⟩ ?_
 ·
  intro i j w1 w2 hij h hc
  match j, hij, h with
  | 0, hij, h => exact trivial
  | 1, hij, h => exact trivial
  | 2, hij, h => exact h.chg hc (cL_not (by intro p hp e; simp only [List.mem_cons, List.not_mem_nil, or_false] at hp; rcases hp with rfl <;> (simp only at e ⊢; omega)))
  | n + 3, _, _ => trivial
 ·
  intro i j v w1 w2 hij h hc
  match j, hij, h with
  | 0, _, _ => trivial
  | 1, _, _ => trivial
  | 2, hij, h => exact h.chg hc (cL_not (by intro p hp e; simp only [List.mem_cons, List.not_mem_nil, or_false] at hp; rcases hp with rfl <;> (simp only at e ⊢; omega)))
  | n + 3, _, _ => trivial
 ·
  intro u303 w304 hW305 hPr308 hp306 hal307
  have hz310 := hW305.size
  have hC309 := hC201.step1 hW305 (by omega)
  have hb311 : Blk w304 g22 #[.int .u64 v100, .int .u64 v101] 25 := hPr308 2 (.inr (.one (by kernel_rfl)))
  refine WR.load (dst := some 56) (t := 25) (o := 0) hb311 (by kernel_rfl) (.agg #[.int .u64 v100, .int .u64 v101]) (by kernel_rfl) ?_
  refine WR.fin (by kernel_rfl) ?_
  exact fun _ ha => ⟨Chg.refl _ _, _, ha, ⟨⟨fun h => absurd h (by decide), alNone (by decide)⟩, rfl⟩⟩
 ·
  intro u312 w313 hW314 _ hp315 hal316
  have hz319 := hW314.size
  have hC318 := hC201.step1 hW314 (by omega)
  have hb320 := hb207.chg1 hW314 (by omega)
  refine WR.load (dst := some 57) (t := 25) (o := 0) hb320 (by kernel_rfl) (.agg #[.int .u64 x169.2.Lo, .int .u64 x169.2.Hi]) (by kernel_rfl) ?_
  refine WR.fin (by kernel_rfl) ?_
  exact fun _ ha => ⟨Chg.refl _ _, _, ha, ⟨⟨fun h => absurd h (by decide), alNone (by decide)⟩, rfl⟩⟩
 ·
  intro u321 w322 hW323 hPr326 hp324 hal325
  have hz328 := hW323.size
  have hC327 := hC201.step1 hW323 (by omega)
  have hb329 : Blk w322 g22 #[.int .u64 v100, .int .u64 v101] 25 := hPr326 2 (.inl rfl)
  refine WR.store (t := 25) (o := 0) (v := .agg #[.int .u64 v100, .int .u64 v101]) hb329 (by kernel_rfl) #[.int .u64 v100, .int .u64 v101] (by kernel_rfl) ?_
  intro w330 hb331 hc332
  have hz334 := hc332.size
  have hC333 := hC327.step1 hc332 (by omega)
  refine WR.fin (by kernel_rfl) ?_
  exact fun _ ha => ⟨hc332, undef, ha, ⟨⟨fun h => absurd h (by decide), alNone (by decide)⟩, hb331⟩⟩
 intro u335 w336 hW337 hr338 _ _
 have hz342 := hW337.size
 have hC341 := hC201.step1 hW337 (by omega)
 have hp343 : Blk w336 g22 #[.int .u64 v100, .int .u64 v101] 25 := hr338 2 (by omega) (by kernel_rfl)
 refine WR.keep [10, 11, 12, 57] (F' := [(10, pt g22 0), (11, pt g32 0), (12, pt g42 0), (57, .agg #[.int .u64 x169.2.Lo, .int .u64 x169.2.Hi])]) (by kernel_rfl) ?_
 have hb347 := hb207.chg1 hW337 (by omega)
 refine WR.store (t := 25) (o := 0) (v := .agg #[.int .u64 x169.2.Lo, .int .u64 x169.2.Hi]) hb347 (by kernel_rfl) #[.int .u64 x169.2.Lo, .int .u64 x169.2.Hi] (by kernel_rfl) ?_
 intro w344 hb345 hc346
 have hz349 := hc346.size
 have hC348 := hC341.step1 hc346 (by omega)
 have hb353 := (hb208.chg1 hW337 (by omega)).chg1 hc346 (by omega)
 refine WR.store (t := 4) (o := 0) (v := .bool true) hb353 (by kernel_rfl) #[.bool true] (by kernel_rfl) ?_
 intro w350 hb351 hc352
 have hz355 := hc352.size
 have hC354 := hC348.step1 hc352 (by omega)
 refine WR.fin (by kernel_rfl) ?_
 refine go hK302 ?_
 refine CW.ret ?_
 have hb356 := (hp343.chg1 hc346 (by omega)).chg1 hc352 (by omega)
 have hb357 := hb345.chg1 hc352 (by omega)
 exact retD (P := Try.prog) (fn := Try.f20) (d := { target := .fn (.func 56) #[pt g22 0, pt g32 0, pt g42 0], args := #[] }) (fv := .func 56) (cap := #[pt g22 0, pt g32 0, pt g42 0]) (f := 56) (args := #[pt g22 0, pt g32 0, pt g42 0]) (M := fun w1 => Chg [] w350 w1) rfl (by kernel_rfl) (span_If_1_ret g22 g32 g42 w350) (fun _ => [.agg #[.int .u64 v100, .int .u64 v101], .agg #[.int .u64 x169.2.Lo, .int .u64 x169.2.Hi], .bool true]) (fun w1 hM => ⟨resCell (hb356.pure hM) rfl (by kernel_rfl), resCell (hb357.pure hM) rfl (by kernel_rfl), resCell (hb351.pure hM) rfl (by kernel_rfl), trivial⟩) (fun w1 hM => ⟨(hC354.pure hM), (congrArg (fun r : (TSpan × TSpan × Bool) => (.tuple #[TSpan.v r.1, TSpan.v r.2.1, .bool r.2.2] : Value)) hs301).symm⟩)
end Go.V
