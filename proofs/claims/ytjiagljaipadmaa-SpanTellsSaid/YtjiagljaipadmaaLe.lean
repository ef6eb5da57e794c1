import Derived.Test.YtjiagljaipadmaaProg
import Derived.Test.YtjiagljaipadmaaLt
import Derived.Test.YtjiagljaipadmaaR0
namespace Go.V
open Go.RowKit Go.Proofs
def law11_SpanTells (a0 : TSpan) (a1 : TSpan) (a2 : Int) (a3 : Bool)  : Bool := (letF (span_Meet a0 a1) fun x24 => (letF (ref11_Meet a0 a1) fun x50 => ((((((((((x24.1.Lo == x50.1.Lo) && (x24.1.Hi == x50.1.Hi)) && (x24.2 == x50.2)) && (((span_Join a0 a1).Lo == (ref11_Join a0 a1).Lo) && ((span_Join a0 a1).Hi == (ref11_Join a0 a1).Hi))) && ((span_Within a0 a1) == (ref11_Within a0 a1))) && ((span_Has a0 a2) == (ref11_Has a0 a2))) && ((span_Right a0) == (ref11_Right a0))) && (((span_Of a2).Lo == (ref11_Of a2).Lo) && ((span_Of a2).Hi == (ref11_Of a2).Hi))) && (((span_All a3).Lo == (ref11_All a3).Lo) && ((span_All a3).Hi == (ref11_All a3).Hi))) && (law11_awake))))

set_option maxRecDepth 100000 in
set_option maxHeartbeats 4000000 in
theorem law11_SpanTells_any (a0 : TSpan) (a1 : TSpan) (a2 : Int) (a3 : Bool)   (w : World)  (_h_a0 : IU64 a0.Lo ∧ IU64 a0.Hi) (_h_a1 : IU64 a1.Lo ∧ IU64 a1.Hi) (_h_a2 : IU64 a2)  : Calls Try.prog 5 #[.agg #[.int .u64 a0.Lo, .int .u64 a0.Hi], .agg #[.int .u64 a1.Lo, .int .u64 a1.Hi], .int .u64 a2, .bool a3] w (RetV w (.bool (law11_SpanTells a0 a1 a2 a3))) := by
 have hs := law11_SpanTells.eq_1 a0 a1 a2 a3
 obtain ⟨q_law11_awake, hq_law11_awake⟩ : ∃ x, law11_awake = x := ⟨_, rfl⟩
 rw [hq_law11_awake] at hs
 refine calls_of_CW Try.func5 rfl (n := 84) Try.ntmps5 (by kernel_rfl) [0, 1, 2, 3] (F := [(0, .agg #[.int .u64 a0.Lo, .int .u64 a0.Hi]), (1, .agg #[.int .u64 a1.Lo, .int .u64 a1.Hi]), (2, .int .u64 a2), (3, .bool a3)]) (by kernel_rfl) ?_
 refine CW.seq fun K1 hK1 => ?_
 refine CW.region ?_
 refine WR.box (dst := some 4) (e := 25) (v := .agg #[.int .u64 a0.Lo, .int .u64 a0.Hi]) (by kernel_rfl) #[.int .u64 a0.Lo, .int .u64 a0.Hi] (by kernel_rfl) ?_
 intro g2 w3 hN4
 have hf6 : w.heap.size ≤ g2 := hN4.fresh
 have hfr8 := hN4.fresh
 have hc7 := hN4.chg
 have hz10 := hc7.size
 have hC9 := (Chg.refl [] w).pure hc7
 have hb5 := hN4.blk
 have hg11 := hb5.lt
 refine WR.box (dst := some 5) (e := 25) (v := .agg #[.int .u64 a1.Lo, .int .u64 a1.Hi]) (by kernel_rfl) #[.int .u64 a1.Lo, .int .u64 a1.Hi] (by kernel_rfl) ?_
 intro g12 w13 hN14
 have hf16 : w.heap.size ≤ g12 := Nat.le_trans hC9.size hN14.fresh
 have hfr18 := hN14.fresh
 have hc17 := hN14.chg
 have hz20 := hc17.size
 have hC19 := hC9.pure hc17
 have hb15 := hN14.blk
 have hg21 := hb15.lt
 refine WR.batch 1 [(2, .int .u64 a2), (3, .bool a3), (4, pt g2 0), (5, pt g12 0)] (by kernel_rfl) ?_
 refine WR.fin (by kernel_rfl) ?_
 refine go hK1 ?_
 refine CW.seq fun K22 hK22 => ?_
 refine CW.region ?_
 have hb23 := hb5.pure hc17
 refine WR.load (dst := some 14) (t := 25) (o := 0) hb23 (by kernel_rfl) (.agg #[.int .u64 a0.Lo, .int .u64 a0.Hi]) (by kernel_rfl) ?_
 refine WR.load (dst := some 15) (t := 25) (o := 0) hb15 (by kernel_rfl) (.agg #[.int .u64 a1.Lo, .int .u64 a1.Hi]) (by kernel_rfl) ?_
 obtain ⟨x24, hx25⟩ : ∃ x, span_Meet a0 a1 = x := ⟨_, rfl⟩
 have hs27 := letS hx25 hs
 have hx26 : IU64 x24.1.Lo ∧ IU64 x24.1.Hi := by rw [← hx25]; exact span_Meet_ok a0 a1 ⟨(by omega), (by omega)⟩ ⟨(by omega), (by omega)⟩ 
 refine WR.call (dst := some 16) (by kernel_rfl) (retE (g := (fun r : (TSpan × Bool) => (.tuple #[TSpan.v r.1, .bool r.2] : Value))) hx25 (span_Meet_any a0 a1 w13  ⟨(by omega), (by omega)⟩ ⟨(by omega), (by omega)⟩ )) ?_
 rintro _ w28 hc29 rfl
 have hz31 := hc29.size
 have hC30 := hC19.pure hc29
 refine WR.batch 3 [(2, .int .u64 a2), (3, .bool a3), (4, pt g2 0), (5, pt g12 0), (17, .agg #[.int .u64 x24.1.Lo, .int .u64 x24.1.Hi]), (18, .bool x24.2)] (by kernel_rfl) ?_
 refine WR.alloc (dst := some 9) (e := 25) (by kernel_rfl) #[.int .u64 0, .int .u64 0] (by kernel_rfl) ?_
 intro g32 w33 hN34
 have hf36 : w.heap.size ≤ g32 := Nat.le_trans hC30.size hN34.fresh
 have hfr38 := hN34.fresh
 have hc37 := hN34.chg
 have hz40 := hc37.size
 have hC39 := hC30.pure hc37
 have hb35 := hN34.blk
 have hg41 := hb35.lt
 refine WR.store (t := 25) (o := 0) (v := .agg #[.int .u64 x24.1.Lo, .int .u64 x24.1.Hi]) hb35 (by kernel_rfl) #[.int .u64 x24.1.Lo, .int .u64 x24.1.Hi] (by kernel_rfl) ?_
 intro w42 hb43 hc44
 have hz46 := hc44.size
 have hC45 := hC39.step1 hc44 (by omega)
 refine WR.batch 1 [(2, .int .u64 a2), (3, .bool a3), (4, pt g2 0), (5, pt g12 0), (9, pt g32 0), (10, .bool x24.2)] (by kernel_rfl) ?_
 refine WR.fin (by kernel_rfl) ?_
 refine go hK22 ?_
 refine CW.seq fun K47 hK47 => ?_
 refine CW.region ?_
 have hb48 := ((hb23.pure hc29).pure hc37).chg1 hc44 (by omega)
 refine WR.load (dst := some 20) (t := 25) (o := 0) hb48 (by kernel_rfl) (.agg #[.int .u64 a0.Lo, .int .u64 a0.Hi]) (by kernel_rfl) ?_
 have hb49 := ((hb15.pure hc29).pure hc37).chg1 hc44 (by omega)
 refine WR.load (dst := some 21) (t := 25) (o := 0) hb49 (by kernel_rfl) (.agg #[.int .u64 a1.Lo, .int .u64 a1.Hi]) (by kernel_rfl) ?_
 obtain ⟨x50, hx51⟩ : ∃ x, ref11_Meet a0 a1 = x := ⟨_, rfl⟩
 have hs53 := letS hx51 hs27
 have hx52 : IU64 x50.1.Lo ∧ IU64 x50.1.Hi := by rw [← hx51]; exact ref11_Meet_ok a0 a1 ⟨(by omega), (by omega)⟩ ⟨(by omega), (by omega)⟩ 
 refine WR.call (dst := some 22) (by kernel_rfl) (retE (g := (fun r : (TSpan × Bool) => (.tuple #[TSpan.v r.1, .bool r.2] : Value))) hx51 (ref11_Meet_any a0 a1 w42  ⟨(by omega), (by omega)⟩ ⟨(by omega), (by omega)⟩ )) ?_
 rintro _ w54 hc55 rfl
 have hz57 := hc55.size
 have hC56 := hC45.pure hc55
 refine WR.batch 3 [(2, .int .u64 a2), (3, .bool a3), (4, pt g2 0), (5, pt g12 0), (9, pt g32 0), (10, .bool x24.2), (23, .agg #[.int .u64 x50.1.Lo, .int .u64 x50.1.Hi]), (24, .bool x50.2)] (by kernel_rfl) ?_
 refine WR.alloc (dst := some 11) (e := 25) (by kernel_rfl) #[.int .u64 0, .int .u64 0] (by kernel_rfl) ?_
 intro g58 w59 hN60
 have hf62 : w.heap.size ≤ g58 := Nat.le_trans hC56.size hN60.fresh
 have hfr64 := hN60.fresh
 have hc63 := hN60.chg
 have hz66 := hc63.size
 have hC65 := hC56.pure hc63
 have hb61 := hN60.blk
 have hg67 := hb61.lt
 refine WR.store (t := 25) (o := 0) (v := .agg #[.int .u64 x50.1.Lo, .int .u64 x50.1.Hi]) hb61 (by kernel_rfl) #[.int .u64 x50.1.Lo, .int .u64 x50.1.Hi] (by kernel_rfl) ?_
 intro w68 hb69 hc70
 have hz72 := hc70.size
 have hC71 := hC65.step1 hc70 (by omega)
 refine WR.batch 1 [(2, .int .u64 a2), (3, .bool a3), (4, pt g2 0), (5, pt g12 0), (9, pt g32 0), (10, .bool x24.2), (11, pt g58 0), (12, .bool x50.2)] (by kernel_rfl) ?_
 refine WR.fin (by kernel_rfl) ?_
 refine go hK47 ?_
 refine CW.seq fun K73 hK73 => ?_
 refine CW.regionQ (by kernel_rfl) (by kernel_rfl) ?_
 have hb74 := ((hb43.pure hc55).pure hc63).chg1 hc70 (by omega)
 refine WQ.load (dst := some 25) (t := 25) (o := 0) (fun _ hq => hb74.pure hq) (by kernel_rfl) (.agg #[.int .u64 x24.1.Lo, .int .u64 x24.1.Hi]) (by kernel_rfl) ?_
 refine WQ.load (dst := some 26) (t := 25) (o := 0) (fun _ hq => hb69.pure hq) (by kernel_rfl) (.agg #[.int .u64 x50.1.Lo, .int .u64 x50.1.Hi]) (by kernel_rfl) ?_
 refine WQ.val (dst := some 27) (.bool ((x24.1.Lo == x50.1.Lo) && (x24.1.Hi == x50.1.Hi))) (run_eqS (t := 25) (xs := #[.int .u64 x24.1.Lo, .int .u64 x24.1.Hi]) (ys := #[.int .u64 x50.1.Lo, .int .u64 x50.1.Hi]) (neg := false) (b := ((x24.1.Lo == x50.1.Lo) && (x24.1.Hi == x50.1.Hi))) (by kernel_rfl) (by kernel_rfl) (by kernel_rfl)) ?_
 refine WQ.val (dst := some 28) (.bool ((x24.1.Lo == x50.1.Lo) && (x24.1.Hi == x50.1.Hi))) (fun _ => by kernel_rfl) ?_
 refine WQ.merge 8 [(2, .int .u64 a2), (3, .bool a3), (4, pt g2 0), (5, pt g12 0), (32, .bool (((x24.1.Lo == x50.1.Lo) && (x24.1.Hi == x50.1.Hi)) && (x24.2 == x50.2)))] (fun Q' => ?_) ?_
 ·
  cases hg75 : ((x24.1.Lo == x50.1.Lo) && (x24.1.Hi == x50.1.Hi))
  ·
   have hk77 := hg75
   replace hg75 : (x24.1.Lo ≠ x50.1.Lo) ∨ (x24.1.Hi ≠ x50.1.Hi) := (orMap (bAndF hg75) (fun h => (bEqF h)) (fun h => (bEqF h)))
   intro hM76
   refine WQ.pass1 (dst := some 29) (by kernel_rfl) ?_
   refine WQ.pass1 (dst := some 30) (by kernel_rfl) ?_
   refine WQ.pass1 (dst := some 31) (by kernel_rfl) ?_
   refine WQ.val (dst := some 32) (.bool false) (fun _ => by kernel_rfl) ?_
   exact WQ.keep [2, 3, 4, 5, 32] (by kernel_rfl) hM76
  ·
   have hk78 := hg75
   replace hg75 : (x24.1.Lo = x50.1.Lo) ∧ (x24.1.Hi = x50.1.Hi) := ⟨(bEqT (bAndT hg75).1), (bEqT (bAndT hg75).2)⟩
   intro hM76
   refine WQ.val (dst := some 29) (.bool x24.2) (fun _ => by kernel_rfl) ?_
   refine WQ.val (dst := some 30) (.bool x50.2) (fun _ => by kernel_rfl) ?_
   refine WQ.val (dst := some 31) (.bool (x24.2 == x50.2)) (fun _ => by kernel_rfl) ?_
   refine WQ.val (dst := some 32) (.bool (x24.2 == x50.2)) (fun _ => by kernel_rfl) ?_
   exact WQ.keep [2, 3, 4, 5, 32] (by kernel_rfl) hM76
 have hx79 : IU64 (span_Join a0 a1).Lo ∧ IU64 (span_Join a0 a1).Hi := span_Join_ok a0 a1 ⟨(by omega), (by omega)⟩ ⟨(by omega), (by omega)⟩ 
 have hx80 : IU64 (ref11_Join a0 a1).Lo ∧ IU64 (ref11_Join a0 a1).Hi := ref11_Join_ok a0 a1 ⟨(by omega), (by omega)⟩ ⟨(by omega), (by omega)⟩ 
 have hx81 : IU64 (span_Of a2).Lo ∧ IU64 (span_Of a2).Hi := span_Of_ok a2 (by omega) 
 have hx82 : IU64 (ref11_Of a2).Lo ∧ IU64 (ref11_Of a2).Hi := ref11_Of_ok a2 (by omega) 
 have hx83 : IU64 (span_All a3).Lo ∧ IU64 (span_All a3).Hi := span_All_ok a3 
 have hx84 : IU64 (ref11_All a3).Lo ∧ IU64 (ref11_All a3).Hi := ref11_All_ok a3 
 refine WQ.val (dst := some 33) (.bool (((x24.1.Lo == x50.1.Lo) && (x24.1.Hi == x50.1.Hi)) && (x24.2 == x50.2))) (fun _ => by kernel_rfl) ?_
 refine WQ.merge 17 [(2, .int .u64 a2), (3, .bool a3), (4, pt g2 0), (5, pt g12 0), (41, .bool ((((x24.1.Lo == x50.1.Lo) && (x24.1.Hi == x50.1.Hi)) && (x24.2 == x50.2)) && (((span_Join a0 a1).Lo == (ref11_Join a0 a1).Lo) && ((span_Join a0 a1).Hi == (ref11_Join a0 a1).Hi))))] (fun Q' => ?_) ?_
 ·
  cases hg85 : (((x24.1.Lo == x50.1.Lo) && (x24.1.Hi == x50.1.Hi)) && (x24.2 == x50.2))
  ·
   have hk87 := hg85
   replace hg85 : ((x24.1.Lo ≠ x50.1.Lo) ∨ (x24.1.Hi ≠ x50.1.Hi)) ∨ (x24.2 ≠ x50.2) := (orMap (bAndF hg85) (fun h => (orMap (bAndF h) (fun h => (bEqF h)) (fun h => (bEqF h)))) (fun h => (bEqF h)))
   intro hM86
   refine WQ.pass1 (dst := some 34) (by kernel_rfl) ?_
   refine WQ.pass1 (dst := some 35) (by kernel_rfl) ?_
   refine WQ.pass1 (dst := some 36) (by kernel_rfl) ?_
   refine WQ.pass1 (dst := some 37) (by kernel_rfl) ?_
   refine WQ.pass1 (dst := some 38) (by kernel_rfl) ?_
   refine WQ.pass1 (dst := some 39) (by kernel_rfl) ?_
   refine WQ.pass1 (dst := some 40) (by kernel_rfl) ?_
   refine WQ.val (dst := some 41) (.bool false) (fun _ => by kernel_rfl) ?_
   exact WQ.keep [2, 3, 4, 5, 41] (by kernel_rfl) hM86
  ·
   have hk88 := hg85
   replace hg85 : ((x24.1.Lo = x50.1.Lo) ∧ (x24.1.Hi = x50.1.Hi)) ∧ (x24.2 = x50.2) := ⟨⟨(bEqT (bAndT (bAndT hg85).1).1), (bEqT (bAndT (bAndT hg85).1).2)⟩, (bEqT (bAndT hg85).2)⟩
   intro hM86
   have hb89 := ((hb48.pure hc55).pure hc63).chg1 hc70 (by omega)
   refine WQ.load (dst := some 34) (t := 25) (o := 0) (fun _ hq => hb89.pure hq) (by kernel_rfl) (.agg #[.int .u64 a0.Lo, .int .u64 a0.Hi]) (by kernel_rfl) ?_
   have hb90 := ((hb49.pure hc55).pure hc63).chg1 hc70 (by omega)
   refine WQ.load (dst := some 35) (t := 25) (o := 0) (fun _ hq => hb90.pure hq) (by kernel_rfl) (.agg #[.int .u64 a1.Lo, .int .u64 a1.Hi]) (by kernel_rfl) ?_
   have hx91 : IU64 (span_Join a0 a1).Lo ∧ IU64 (span_Join a0 a1).Hi := span_Join_ok a0 a1 ⟨(by omega), (by omega)⟩ ⟨(by omega), (by omega)⟩ 
   refine WQ.call (dst := some 36) (.agg #[.int .u64 (span_Join a0 a1).Lo, .int .u64 (span_Join a0 a1).Hi]) (fun _ => by kernel_rfl) (fun _ _ h h' => h.pure h') (fun wq hq => span_Join_any a0 a1 wq  ⟨(by omega), (by omega)⟩ ⟨(by omega), (by omega)⟩ ) ?_
   refine WQ.load (dst := some 37) (t := 25) (o := 0) (fun _ hq => hb89.pure hq) (by kernel_rfl) (.agg #[.int .u64 a0.Lo, .int .u64 a0.Hi]) (by kernel_rfl) ?_
   refine WQ.load (dst := some 38) (t := 25) (o := 0) (fun _ hq => hb90.pure hq) (by kernel_rfl) (.agg #[.int .u64 a1.Lo, .int .u64 a1.Hi]) (by kernel_rfl) ?_
   have hx92 : IU64 (ref11_Join a0 a1).Lo ∧ IU64 (ref11_Join a0 a1).Hi := ref11_Join_ok a0 a1 ⟨(by omega), (by omega)⟩ ⟨(by omega), (by omega)⟩ 
   refine WQ.call (dst := some 39) (.agg #[.int .u64 (ref11_Join a0 a1).Lo, .int .u64 (ref11_Join a0 a1).Hi]) (fun _ => by kernel_rfl) (fun _ _ h h' => h.pure h') (fun wq hq => ref11_Join_any a0 a1 wq  ⟨(by omega), (by omega)⟩ ⟨(by omega), (by omega)⟩ ) ?_
   refine WQ.val (dst := some 40) (.bool (((span_Join a0 a1).Lo == (ref11_Join a0 a1).Lo) && ((span_Join a0 a1).Hi == (ref11_Join a0 a1).Hi))) (run_eqS (t := 25) (xs := #[.int .u64 (span_Join a0 a1).Lo, .int .u64 (span_Join a0 a1).Hi]) (ys := #[.int .u64 (ref11_Join a0 a1).Lo, .int .u64 (ref11_Join a0 a1).Hi]) (neg := false) (b := (((span_Join a0 a1).Lo == (ref11_Join a0 a1).Lo) && ((span_Join a0 a1).Hi == (ref11_Join a0 a1).Hi))) (by kernel_rfl) (by kernel_rfl) (by kernel_rfl)) ?_
   refine WQ.val (dst := some 41) (.bool (((span_Join a0 a1).Lo == (ref11_Join a0 a1).Lo) && ((span_Join a0 a1).Hi == (ref11_Join a0 a1).Hi))) (fun _ => by kernel_rfl) ?_
   exact WQ.keep [2, 3, 4, 5, 41] (by kernel_rfl) hM86
 have hx93 : IU64 (span_Join a0 a1).Lo ∧ IU64 (span_Join a0 a1).Hi := span_Join_ok a0 a1 ⟨(by omega), (by omega)⟩ ⟨(by omega), (by omega)⟩ 
 have hx94 : IU64 (ref11_Join a0 a1).Lo ∧ IU64 (ref11_Join a0 a1).Hi := ref11_Join_ok a0 a1 ⟨(by omega), (by omega)⟩ ⟨(by omega), (by omega)⟩ 
 have hx95 : IU64 (span_Of a2).Lo ∧ IU64 (span_Of a2).Hi := span_Of_ok a2 (by omega) 
 have hx96 : IU64 (ref11_Of a2).Lo ∧ IU64 (ref11_Of a2).Hi := ref11_Of_ok a2 (by omega) 
 have hx97 : IU64 (span_All a3).Lo ∧ IU64 (span_All a3).Hi := span_All_ok a3 
 have hx98 : IU64 (ref11_All a3).Lo ∧ IU64 (ref11_All a3).Hi := ref11_All_ok a3 
 refine WQ.val (dst := some 42) (.bool ((((x24.1.Lo == x50.1.Lo) && (x24.1.Hi == x50.1.Hi)) && (x24.2 == x50.2)) && (((span_Join a0 a1).Lo == (ref11_Join a0 a1).Lo) && ((span_Join a0 a1).Hi == (ref11_Join a0 a1).Hi)))) (fun _ => by kernel_rfl) ?_
 refine WQ.merge 26 [(2, .int .u64 a2), (3, .bool a3), (4, pt g2 0), (50, .bool (((((x24.1.Lo == x50.1.Lo) && (x24.1.Hi == x50.1.Hi)) && (x24.2 == x50.2)) && (((span_Join a0 a1).Lo == (ref11_Join a0 a1).Lo) && ((span_Join a0 a1).Hi == (ref11_Join a0 a1).Hi))) && ((span_Within a0 a1) == (ref11_Within a0 a1))))] (fun Q' => ?_) ?_
 ·
  cases hg99 : ((((x24.1.Lo == x50.1.Lo) && (x24.1.Hi == x50.1.Hi)) && (x24.2 == x50.2)) && (((span_Join a0 a1).Lo == (ref11_Join a0 a1).Lo) && ((span_Join a0 a1).Hi == (ref11_Join a0 a1).Hi)))
  ·
   have hk101 := hg99
   replace hg99 : (((x24.1.Lo ≠ x50.1.Lo) ∨ (x24.1.Hi ≠ x50.1.Hi)) ∨ (x24.2 ≠ x50.2)) ∨ (((span_Join a0 a1).Lo ≠ (ref11_Join a0 a1).Lo) ∨ ((span_Join a0 a1).Hi ≠ (ref11_Join a0 a1).Hi)) := (orMap (bAndF hg99) (fun h => (orMap (bAndF h) (fun h => (orMap (bAndF h) (fun h => (bEqF h)) (fun h => (bEqF h)))) (fun h => (bEqF h)))) (fun h => (orMap (bAndF h) (fun h => (bEqF h)) (fun h => (bEqF h)))))
   intro hM100
   refine WQ.pass1 (dst := some 43) (by kernel_rfl) ?_
   refine WQ.pass1 (dst := some 44) (by kernel_rfl) ?_
   refine WQ.pass1 (dst := some 45) (by kernel_rfl) ?_
   refine WQ.pass1 (dst := some 46) (by kernel_rfl) ?_
   refine WQ.pass1 (dst := some 47) (by kernel_rfl) ?_
   refine WQ.pass1 (dst := some 48) (by kernel_rfl) ?_
   refine WQ.pass1 (dst := some 49) (by kernel_rfl) ?_
   refine WQ.val (dst := some 50) (.bool false) (fun _ => by kernel_rfl) ?_
   exact WQ.keep [2, 3, 4, 50] (by kernel_rfl) hM100
  ·
   have hk102 := hg99
   replace hg99 : (((x24.1.Lo = x50.1.Lo) ∧ (x24.1.Hi = x50.1.Hi)) ∧ (x24.2 = x50.2)) ∧ (((span_Join a0 a1).Lo = (ref11_Join a0 a1).Lo) ∧ ((span_Join a0 a1).Hi = (ref11_Join a0 a1).Hi)) := ⟨⟨⟨(bEqT (bAndT (bAndT (bAndT hg99).1).1).1), (bEqT (bAndT (bAndT (bAndT hg99).1).1).2)⟩, (bEqT (bAndT (bAndT hg99).1).2)⟩, ⟨(bEqT (bAndT (bAndT hg99).2).1), (bEqT (bAndT (bAndT hg99).2).2)⟩⟩
   intro hM100
   have hb103 := ((hb48.pure hc55).pure hc63).chg1 hc70 (by omega)
   refine WQ.load (dst := some 43) (t := 25) (o := 0) (fun _ hq => hb103.pure hq) (by kernel_rfl) (.agg #[.int .u64 a0.Lo, .int .u64 a0.Hi]) (by kernel_rfl) ?_
   have hb104 := ((hb49.pure hc55).pure hc63).chg1 hc70 (by omega)
   refine WQ.load (dst := some 44) (t := 25) (o := 0) (fun _ hq => hb104.pure hq) (by kernel_rfl) (.agg #[.int .u64 a1.Lo, .int .u64 a1.Hi]) (by kernel_rfl) ?_
   refine WQ.call (dst := some 45) (.bool (span_Within a0 a1)) (fun _ => by kernel_rfl) (fun _ _ h h' => h.pure h') (fun wq hq => span_Within_any a0 a1 wq  ⟨(by omega), (by omega)⟩ ⟨(by omega), (by omega)⟩ ) ?_
   refine WQ.load (dst := some 46) (t := 25) (o := 0) (fun _ hq => hb103.pure hq) (by kernel_rfl) (.agg #[.int .u64 a0.Lo, .int .u64 a0.Hi]) (by kernel_rfl) ?_
   refine WQ.load (dst := some 47) (t := 25) (o := 0) (fun _ hq => hb104.pure hq) (by kernel_rfl) (.agg #[.int .u64 a1.Lo, .int .u64 a1.Hi]) (by kernel_rfl) ?_
   refine WQ.call (dst := some 48) (.bool (ref11_Within a0 a1)) (fun _ => by kernel_rfl) (fun _ _ h h' => h.pure h') (fun wq hq => ref11_Within_any a0 a1 wq  ⟨(by omega), (by omega)⟩ ⟨(by omega), (by omega)⟩ ) ?_
   refine WQ.val (dst := some 49) (.bool ((span_Within a0 a1) == (ref11_Within a0 a1))) (fun _ => by kernel_rfl) ?_
   refine WQ.val (dst := some 50) (.bool ((span_Within a0 a1) == (ref11_Within a0 a1))) (fun _ => by kernel_rfl) ?_
   exact WQ.keep [2, 3, 4, 50] (by kernel_rfl) hM100
 have hx105 : IU64 (span_Join a0 a1).Lo ∧ IU64 (span_Join a0 a1).Hi := span_Join_ok a0 a1 ⟨(by omega), (by omega)⟩ ⟨(by omega), (by omega)⟩ 
 have hx106 : IU64 (ref11_Join a0 a1).Lo ∧ IU64 (ref11_Join a0 a1).Hi := ref11_Join_ok a0 a1 ⟨(by omega), (by omega)⟩ ⟨(by omega), (by omega)⟩ 
 have hx107 : IU64 (span_Of a2).Lo ∧ IU64 (span_Of a2).Hi := span_Of_ok a2 (by omega) 
 have hx108 : IU64 (ref11_Of a2).Lo ∧ IU64 (ref11_Of a2).Hi := ref11_Of_ok a2 (by omega) 
 have hx109 : IU64 (span_All a3).Lo ∧ IU64 (span_All a3).Hi := span_All_ok a3 
 have hx110 : IU64 (ref11_All a3).Lo ∧ IU64 (ref11_All a3).Hi := ref11_All_ok a3 
 refine WQ.val (dst := some 51) (.bool (((((x24.1.Lo == x50.1.Lo) && (x24.1.Hi == x50.1.Hi)) && (x24.2 == x50.2)) && (((span_Join a0 a1).Lo == (ref11_Join a0 a1).Lo) && ((span_Join a0 a1).Hi == (ref11_Join a0 a1).Hi))) && ((span_Within a0 a1) == (ref11_Within a0 a1)))) (fun _ => by kernel_rfl) ?_
 refine WQ.merge 35 [(2, .int .u64 a2), (3, .bool a3), (4, pt g2 0), (59, .bool ((((((x24.1.Lo == x50.1.Lo) && (x24.1.Hi == x50.1.Hi)) && (x24.2 == x50.2)) && (((span_Join a0 a1).Lo == (ref11_Join a0 a1).Lo) && ((span_Join a0 a1).Hi == (ref11_Join a0 a1).Hi))) && ((span_Within a0 a1) == (ref11_Within a0 a1))) && ((span_Has a0 a2) == (ref11_Has a0 a2))))] (fun Q' => ?_) ?_
 ·
  cases hg111 : (((((x24.1.Lo == x50.1.Lo) && (x24.1.Hi == x50.1.Hi)) && (x24.2 == x50.2)) && (((span_Join a0 a1).Lo == (ref11_Join a0 a1).Lo) && ((span_Join a0 a1).Hi == (ref11_Join a0 a1).Hi))) && ((span_Within a0 a1) == (ref11_Within a0 a1)))
  ·
   have hk113 := hg111
   replace hg111 : ((((x24.1.Lo ≠ x50.1.Lo) ∨ (x24.1.Hi ≠ x50.1.Hi)) ∨ (x24.2 ≠ x50.2)) ∨ (((span_Join a0 a1).Lo ≠ (ref11_Join a0 a1).Lo) ∨ ((span_Join a0 a1).Hi ≠ (ref11_Join a0 a1).Hi))) ∨ ((span_Within a0 a1) ≠ (ref11_Within a0 a1)) := (orMap (bAndF hg111) (fun h => (orMap (bAndF h) (fun h => (orMap (bAndF h) (fun h => (orMap (bAndF h) (fun h => (bEqF h)) (fun h => (bEqF h)))) (fun h => (bEqF h)))) (fun h => (orMap (bAndF h) (fun h => (bEqF h)) (fun h => (bEqF h)))))) (fun h => (bEqF h)))
   intro hM112
   refine WQ.pass1 (dst := some 52) (by kernel_rfl) ?_
   refine WQ.pass1 (dst := some 53) (by kernel_rfl) ?_
   refine WQ.pass1 (dst := some 54) (by kernel_rfl) ?_
   refine WQ.pass1 (dst := some 55) (by kernel_rfl) ?_
   refine WQ.pass1 (dst := some 56) (by kernel_rfl) ?_
   refine WQ.pass1 (dst := some 57) (by kernel_rfl) ?_
   refine WQ.pass1 (dst := some 58) (by kernel_rfl) ?_
   refine WQ.val (dst := some 59) (.bool false) (fun _ => by kernel_rfl) ?_
   exact WQ.keep [2, 3, 4, 59] (by kernel_rfl) hM112
  ·
   have hk114 := hg111
   replace hg111 : ((((x24.1.Lo = x50.1.Lo) ∧ (x24.1.Hi = x50.1.Hi)) ∧ (x24.2 = x50.2)) ∧ (((span_Join a0 a1).Lo = (ref11_Join a0 a1).Lo) ∧ ((span_Join a0 a1).Hi = (ref11_Join a0 a1).Hi))) ∧ ((span_Within a0 a1) = (ref11_Within a0 a1)) := ⟨⟨⟨⟨(bEqT (bAndT (bAndT (bAndT (bAndT hg111).1).1).1).1), (bEqT (bAndT (bAndT (bAndT (bAndT hg111).1).1).1).2)⟩, (bEqT (bAndT (bAndT (bAndT hg111).1).1).2)⟩, ⟨(bEqT (bAndT (bAndT (bAndT hg111).1).2).1), (bEqT (bAndT (bAndT (bAndT hg111).1).2).2)⟩⟩, (bEqT (bAndT hg111).2)⟩
   intro hM112
   have hb115 := ((hb48.pure hc55).pure hc63).chg1 hc70 (by omega)
   refine WQ.load (dst := some 52) (t := 25) (o := 0) (fun _ hq => hb115.pure hq) (by kernel_rfl) (.agg #[.int .u64 a0.Lo, .int .u64 a0.Hi]) (by kernel_rfl) ?_
   refine WQ.val (dst := some 53) (.int .u64 a2) (fun _ => by kernel_rfl) ?_
   refine WQ.call (dst := some 54) (.bool (span_Has a0 a2)) (fun _ => by kernel_rfl) (fun _ _ h h' => h.pure h') (fun wq hq => span_Has_any a0 a2 wq  ⟨(by omega), (by omega)⟩ (by omega) ) ?_
   refine WQ.load (dst := some 55) (t := 25) (o := 0) (fun _ hq => hb115.pure hq) (by kernel_rfl) (.agg #[.int .u64 a0.Lo, .int .u64 a0.Hi]) (by kernel_rfl) ?_
   refine WQ.val (dst := some 56) (.int .u64 a2) (fun _ => by kernel_rfl) ?_
   refine WQ.call (dst := some 57) (.bool (ref11_Has a0 a2)) (fun _ => by kernel_rfl) (fun _ _ h h' => h.pure h') (fun wq hq => ref11_Has_any a0 a2 wq  ⟨(by omega), (by omega)⟩ (by omega) ) ?_
   refine WQ.val (dst := some 58) (.bool ((span_Has a0 a2) == (ref11_Has a0 a2))) (fun _ => by kernel_rfl) ?_
   refine WQ.val (dst := some 59) (.bool ((span_Has a0 a2) == (ref11_Has a0 a2))) (fun _ => by kernel_rfl) ?_
   exact WQ.keep [2, 3, 4, 59] (by kernel_rfl) hM112
 have hx116 : IU64 (span_Join a0 a1).Lo ∧ IU64 (span_Join a0 a1).Hi := span_Join_ok a0 a1 ⟨(by omega), (by omega)⟩ ⟨(by omega), (by omega)⟩ 
 have hx117 : IU64 (ref11_Join a0 a1).Lo ∧ IU64 (ref11_Join a0 a1).Hi := ref11_Join_ok a0 a1 ⟨(by omega), (by omega)⟩ ⟨(by omega), (by omega)⟩ 
 have hx118 : IU64 (span_Of a2).Lo ∧ IU64 (span_Of a2).Hi := span_Of_ok a2 (by omega) 
 have hx119 : IU64 (ref11_Of a2).Lo ∧ IU64 (ref11_Of a2).Hi := ref11_Of_ok a2 (by omega) 
 have hx120 : IU64 (span_All a3).Lo ∧ IU64 (span_All a3).Hi := span_All_ok a3 
 have hx121 : IU64 (ref11_All a3).Lo ∧ IU64 (ref11_All a3).Hi := ref11_All_ok a3 
 refine WQ.val (dst := some 60) (.bool ((((((x24.1.Lo == x50.1.Lo) && (x24.1.Hi == x50.1.Hi)) && (x24.2 == x50.2)) && (((span_Join a0 a1).Lo == (ref11_Join a0 a1).Lo) && ((span_Join a0 a1).Hi == (ref11_Join a0 a1).Hi))) && ((span_Within a0 a1) == (ref11_Within a0 a1))) && ((span_Has a0 a2) == (ref11_Has a0 a2)))) (fun _ => by kernel_rfl) ?_
 refine WQ.merge 42 [(2, .int .u64 a2), (3, .bool a3), (66, .bool (((((((x24.1.Lo == x50.1.Lo) && (x24.1.Hi == x50.1.Hi)) && (x24.2 == x50.2)) && (((span_Join a0 a1).Lo == (ref11_Join a0 a1).Lo) && ((span_Join a0 a1).Hi == (ref11_Join a0 a1).Hi))) && ((span_Within a0 a1) == (ref11_Within a0 a1))) && ((span_Has a0 a2) == (ref11_Has a0 a2))) && ((span_Right a0) == (ref11_Right a0))))] (fun Q' => ?_) ?_
 ·
  cases hg122 : ((((((x24.1.Lo == x50.1.Lo) && (x24.1.Hi == x50.1.Hi)) && (x24.2 == x50.2)) && (((span_Join a0 a1).Lo == (ref11_Join a0 a1).Lo) && ((span_Join a0 a1).Hi == (ref11_Join a0 a1).Hi))) && ((span_Within a0 a1) == (ref11_Within a0 a1))) && ((span_Has a0 a2) == (ref11_Has a0 a2)))
  ·
   have hk124 := hg122
   replace hg122 : (((((x24.1.Lo ≠ x50.1.Lo) ∨ (x24.1.Hi ≠ x50.1.Hi)) ∨ (x24.2 ≠ x50.2)) ∨ (((span_Join a0 a1).Lo ≠ (ref11_Join a0 a1).Lo) ∨ ((span_Join a0 a1).Hi ≠ (ref11_Join a0 a1).Hi))) ∨ ((span_Within a0 a1) ≠ (ref11_Within a0 a1))) ∨ ((span_Has a0 a2) ≠ (ref11_Has a0 a2)) := (orMap (bAndF hg122) (fun h => (orMap (bAndF h) (fun h => (orMap (bAndF h) (fun h => (orMap (bAndF h) (fun h => (orMap (bAndF h) (fun h => (bEqF h)) (fun h => (bEqF h)))) (fun h => (bEqF h)))) (fun h => (orMap (bAndF h) (fun h => (bEqF h)) (fun h => (bEqF h)))))) (fun h => (bEqF h)))) (fun h => (bEqF h)))
   intro hM123
   refine WQ.pass1 (dst := some 61) (by kernel_rfl) ?_
   refine WQ.pass1 (dst := some 62) (by kernel_rfl) ?_
   refine WQ.pass1 (dst := some 63) (by kernel_rfl) ?_
   refine WQ.pass1 (dst := some 64) (by kernel_rfl) ?_
   refine WQ.pass1 (dst := some 65) (by kernel_rfl) ?_
   refine WQ.val (dst := some 66) (.bool false) (fun _ => by kernel_rfl) ?_
   exact WQ.keep [2, 3, 66] (by kernel_rfl) hM123
  ·
   have hk125 := hg122
   replace hg122 : (((((x24.1.Lo = x50.1.Lo) ∧ (x24.1.Hi = x50.1.Hi)) ∧ (x24.2 = x50.2)) ∧ (((span_Join a0 a1).Lo = (ref11_Join a0 a1).Lo) ∧ ((span_Join a0 a1).Hi = (ref11_Join a0 a1).Hi))) ∧ ((span_Within a0 a1) = (ref11_Within a0 a1))) ∧ ((span_Has a0 a2) = (ref11_Has a0 a2)) := ⟨⟨⟨⟨⟨(bEqT (bAndT (bAndT (bAndT (bAndT (bAndT hg122).1).1).1).1).1), (bEqT (bAndT (bAndT (bAndT (bAndT (bAndT hg122).1).1).1).1).2)⟩, (bEqT (bAndT (bAndT (bAndT (bAndT hg122).1).1).1).2)⟩, ⟨(bEqT (bAndT (bAndT (bAndT (bAndT hg122).1).1).2).1), (bEqT (bAndT (bAndT (bAndT (bAndT hg122).1).1).2).2)⟩⟩, (bEqT (bAndT (bAndT hg122).1).2)⟩, (bEqT (bAndT hg122).2)⟩
   intro hM123
   have hb126 := ((hb48.pure hc55).pure hc63).chg1 hc70 (by omega)
   refine WQ.load (dst := some 61) (t := 25) (o := 0) (fun _ hq => hb126.pure hq) (by kernel_rfl) (.agg #[.int .u64 a0.Lo, .int .u64 a0.Hi]) (by kernel_rfl) ?_
   refine WQ.call (dst := some 62) (.bool (span_Right a0)) (fun _ => by kernel_rfl) (fun _ _ h h' => h.pure h') (fun wq hq => span_Right_any a0 wq  ⟨(by omega), (by omega)⟩ ) ?_
   refine WQ.load (dst := some 63) (t := 25) (o := 0) (fun _ hq => hb126.pure hq) (by kernel_rfl) (.agg #[.int .u64 a0.Lo, .int .u64 a0.Hi]) (by kernel_rfl) ?_
   refine WQ.call (dst := some 64) (.bool (ref11_Right a0)) (fun _ => by kernel_rfl) (fun _ _ h h' => h.pure h') (fun wq hq => ref11_Right_any a0 wq  ⟨(by omega), (by omega)⟩ ) ?_
   refine WQ.val (dst := some 65) (.bool ((span_Right a0) == (ref11_Right a0))) (fun _ => by kernel_rfl) ?_
   refine WQ.val (dst := some 66) (.bool ((span_Right a0) == (ref11_Right a0))) (fun _ => by kernel_rfl) ?_
   exact WQ.keep [2, 3, 66] (by kernel_rfl) hM123
 have hx127 : IU64 (span_Join a0 a1).Lo ∧ IU64 (span_Join a0 a1).Hi := span_Join_ok a0 a1 ⟨(by omega), (by omega)⟩ ⟨(by omega), (by omega)⟩ 
 have hx128 : IU64 (ref11_Join a0 a1).Lo ∧ IU64 (ref11_Join a0 a1).Hi := ref11_Join_ok a0 a1 ⟨(by omega), (by omega)⟩ ⟨(by omega), (by omega)⟩ 
 have hx129 : IU64 (span_Of a2).Lo ∧ IU64 (span_Of a2).Hi := span_Of_ok a2 (by omega) 
 have hx130 : IU64 (ref11_Of a2).Lo ∧ IU64 (ref11_Of a2).Hi := ref11_Of_ok a2 (by omega) 
 have hx131 : IU64 (span_All a3).Lo ∧ IU64 (span_All a3).Hi := span_All_ok a3 
 have hx132 : IU64 (ref11_All a3).Lo ∧ IU64 (ref11_All a3).Hi := ref11_All_ok a3 
 refine WQ.val (dst := some 67) (.bool (((((((x24.1.Lo == x50.1.Lo) && (x24.1.Hi == x50.1.Hi)) && (x24.2 == x50.2)) && (((span_Join a0 a1).Lo == (ref11_Join a0 a1).Lo) && ((span_Join a0 a1).Hi == (ref11_Join a0 a1).Hi))) && ((span_Within a0 a1) == (ref11_Within a0 a1))) && ((span_Has a0 a2) == (ref11_Has a0 a2))) && ((span_Right a0) == (ref11_Right a0)))) (fun _ => by kernel_rfl) ?_
 refine WQ.merge 49 [(3, .bool a3), (73, .bool ((((((((x24.1.Lo == x50.1.Lo) && (x24.1.Hi == x50.1.Hi)) && (x24.2 == x50.2)) && (((span_Join a0 a1).Lo == (ref11_Join a0 a1).Lo) && ((span_Join a0 a1).Hi == (ref11_Join a0 a1).Hi))) && ((span_Within a0 a1) == (ref11_Within a0 a1))) && ((span_Has a0 a2) == (ref11_Has a0 a2))) && ((span_Right a0) == (ref11_Right a0))) && (((span_Of a2).Lo == (ref11_Of a2).Lo) && ((span_Of a2).Hi == (ref11_Of a2).Hi))))] (fun Q' => ?_) ?_
 ·
  cases hg133 : (((((((x24.1.Lo == x50.1.Lo) && (x24.1.Hi == x50.1.Hi)) && (x24.2 == x50.2)) && (((span_Join a0 a1).Lo == (ref11_Join a0 a1).Lo) && ((span_Join a0 a1).Hi == (ref11_Join a0 a1).Hi))) && ((span_Within a0 a1) == (ref11_Within a0 a1))) && ((span_Has a0 a2) == (ref11_Has a0 a2))) && ((span_Right a0) == (ref11_Right a0)))
  ·
   have hk135 := hg133
   replace hg133 : ((((((x24.1.Lo ≠ x50.1.Lo) ∨ (x24.1.Hi ≠ x50.1.Hi)) ∨ (x24.2 ≠ x50.2)) ∨ (((span_Join a0 a1).Lo ≠ (ref11_Join a0 a1).Lo) ∨ ((span_Join a0 a1).Hi ≠ (ref11_Join a0 a1).Hi))) ∨ ((span_Within a0 a1) ≠ (ref11_Within a0 a1))) ∨ ((span_Has a0 a2) ≠ (ref11_Has a0 a2))) ∨ ((span_Right a0) ≠ (ref11_Right a0)) := (orMap (bAndF hg133) (fun h => (orMap (bAndF h) (fun h => (orMap (bAndF h) (fun h => (orMap (bAndF h) (fun h => (orMap (bAndF h) (fun h => (orMap (bAndF h) (fun h => (bEqF h)) (fun h => (bEqF h)))) (fun h => (bEqF h)))) (fun h => (orMap (bAndF h) (fun h => (bEqF h)) (fun h => (bEqF h)))))) (fun h => (bEqF h)))) (fun h => (bEqF h)))) (fun h => (bEqF h)))
   intro hM134
   refine WQ.pass1 (dst := some 68) (by kernel_rfl) ?_
   refine WQ.pass1 (dst := some 69) (by kernel_rfl) ?_
   refine WQ.pass1 (dst := some 70) (by kernel_rfl) ?_
   refine WQ.pass1 (dst := some 71) (by kernel_rfl) ?_
   refine WQ.pass1 (dst := some 72) (by kernel_rfl) ?_
   refine WQ.val (dst := some 73) (.bool false) (fun _ => by kernel_rfl) ?_
   exact WQ.keep [3, 73] (by kernel_rfl) hM134
  ·
   have hk136 := hg133
   replace hg133 : ((((((x24.1.Lo = x50.1.Lo) ∧ (x24.1.Hi = x50.1.Hi)) ∧ (x24.2 = x50.2)) ∧ (((span_Join a0 a1).Lo = (ref11_Join a0 a1).Lo) ∧ ((span_Join a0 a1).Hi = (ref11_Join a0 a1).Hi))) ∧ ((span_Within a0 a1) = (ref11_Within a0 a1))) ∧ ((span_Has a0 a2) = (ref11_Has a0 a2))) ∧ ((span_Right a0) = (ref11_Right a0)) := ⟨⟨⟨⟨⟨⟨(bEqT (bAndT (bAndT (bAndT (bAndT (bAndT (bAndT hg133).1).1).1).1).1).1), (bEqT (bAndT (bAndT (bAndT (bAndT (bAndT (bAndT hg133).1).1).1).1).1).2)⟩, (bEqT (bAndT (bAndT (bAndT (bAndT (bAndT hg133).1).1).1).1).2)⟩, ⟨(bEqT (bAndT (bAndT (bAndT (bAndT (bAndT hg133).1).1).1).2).1), (bEqT (bAndT (bAndT (bAndT (bAndT (bAndT hg133).1).1).1).2).2)⟩⟩, (bEqT (bAndT (bAndT (bAndT hg133).1).1).2)⟩, (bEqT (bAndT (bAndT hg133).1).2)⟩, (bEqT (bAndT hg133).2)⟩
   intro hM134
   refine WQ.val (dst := some 68) (.int .u64 a2) (fun _ => by kernel_rfl) ?_
   have hx137 : IU64 (span_Of a2).Lo ∧ IU64 (span_Of a2).Hi := span_Of_ok a2 (by omega) 
   refine WQ.call (dst := some 69) (.agg #[.int .u64 (span_Of a2).Lo, .int .u64 (span_Of a2).Hi]) (fun _ => by kernel_rfl) (fun _ _ h h' => h.pure h') (fun wq hq => span_Of_any a2 wq  (by omega) ) ?_
   refine WQ.val (dst := some 70) (.int .u64 a2) (fun _ => by kernel_rfl) ?_
   have hx138 : IU64 (ref11_Of a2).Lo ∧ IU64 (ref11_Of a2).Hi := ref11_Of_ok a2 (by omega) 
   refine WQ.call (dst := some 71) (.agg #[.int .u64 (ref11_Of a2).Lo, .int .u64 (ref11_Of a2).Hi]) (fun _ => by kernel_rfl) (fun _ _ h h' => h.pure h') (fun wq hq => ref11_Of_any a2 wq  (by omega) ) ?_
   refine WQ.val (dst := some 72) (.bool (((span_Of a2).Lo == (ref11_Of a2).Lo) && ((span_Of a2).Hi == (ref11_Of a2).Hi))) (run_eqS (t := 25) (xs := #[.int .u64 (span_Of a2).Lo, .int .u64 (span_Of a2).Hi]) (ys := #[.int .u64 (ref11_Of a2).Lo, .int .u64 (ref11_Of a2).Hi]) (neg := false) (b := (((span_Of a2).Lo == (ref11_Of a2).Lo) && ((span_Of a2).Hi == (ref11_Of a2).Hi))) (by kernel_rfl) (by kernel_rfl) (by kernel_rfl)) ?_
   refine WQ.val (dst := some 73) (.bool (((span_Of a2).Lo == (ref11_Of a2).Lo) && ((span_Of a2).Hi == (ref11_Of a2).Hi))) (fun _ => by kernel_rfl) ?_
   exact WQ.keep [3, 73] (by kernel_rfl) hM134
 have hx139 : IU64 (span_Join a0 a1).Lo ∧ IU64 (span_Join a0 a1).Hi := span_Join_ok a0 a1 ⟨(by omega), (by omega)⟩ ⟨(by omega), (by omega)⟩ 
 have hx140 : IU64 (ref11_Join a0 a1).Lo ∧ IU64 (ref11_Join a0 a1).Hi := ref11_Join_ok a0 a1 ⟨(by omega), (by omega)⟩ ⟨(by omega), (by omega)⟩ 
 have hx141 : IU64 (span_Of a2).Lo ∧ IU64 (span_Of a2).Hi := span_Of_ok a2 (by omega) 
 have hx142 : IU64 (ref11_Of a2).Lo ∧ IU64 (ref11_Of a2).Hi := ref11_Of_ok a2 (by omega) 
 have hx143 : IU64 (span_All a3).Lo ∧ IU64 (span_All a3).Hi := span_All_ok a3 
 have hx144 : IU64 (ref11_All a3).Lo ∧ IU64 (ref11_All a3).Hi := ref11_All_ok a3 
 refine WQ.val (dst := some 74) (.bool ((((((((x24.1.Lo == x50.1.Lo) && (x24.1.Hi == x50.1.Hi)) && (x24.2 == x50.2)) && (((span_Join a0 a1).Lo == (ref11_Join a0 a1).Lo) && ((span_Join a0 a1).Hi == (ref11_Join a0 a1).Hi))) && ((span_Within a0 a1) == (ref11_Within a0 a1))) && ((span_Has a0 a2) == (ref11_Has a0 a2))) && ((span_Right a0) == (ref11_Right a0))) && (((span_Of a2).Lo == (ref11_Of a2).Lo) && ((span_Of a2).Hi == (ref11_Of a2).Hi)))) (fun _ => by kernel_rfl) ?_
 refine WQ.merge 56 [(80, .bool (((((((((x24.1.Lo == x50.1.Lo) && (x24.1.Hi == x50.1.Hi)) && (x24.2 == x50.2)) && (((span_Join a0 a1).Lo == (ref11_Join a0 a1).Lo) && ((span_Join a0 a1).Hi == (ref11_Join a0 a1).Hi))) && ((span_Within a0 a1) == (ref11_Within a0 a1))) && ((span_Has a0 a2) == (ref11_Has a0 a2))) && ((span_Right a0) == (ref11_Right a0))) && (((span_Of a2).Lo == (ref11_Of a2).Lo) && ((span_Of a2).Hi == (ref11_Of a2).Hi))) && (((span_All a3).Lo == (ref11_All a3).Lo) && ((span_All a3).Hi == (ref11_All a3).Hi))))] (fun Q' => ?_) ?_
 ·
  cases hg145 : ((((((((x24.1.Lo == x50.1.Lo) && (x24.1.Hi == x50.1.Hi)) && (x24.2 == x50.2)) && (((span_Join a0 a1).Lo == (ref11_Join a0 a1).Lo) && ((span_Join a0 a1).Hi == (ref11_Join a0 a1).Hi))) && ((span_Within a0 a1) == (ref11_Within a0 a1))) && ((span_Has a0 a2) == (ref11_Has a0 a2))) && ((span_Right a0) == (ref11_Right a0))) && (((span_Of a2).Lo == (ref11_Of a2).Lo) && ((span_Of a2).Hi == (ref11_Of a2).Hi)))
  ·
   have hk147 := hg145
   replace hg145 : (((((((x24.1.Lo ≠ x50.1.Lo) ∨ (x24.1.Hi ≠ x50.1.Hi)) ∨ (x24.2 ≠ x50.2)) ∨ (((span_Join a0 a1).Lo ≠ (ref11_Join a0 a1).Lo) ∨ ((span_Join a0 a1).Hi ≠ (ref11_Join a0 a1).Hi))) ∨ ((span_Within a0 a1) ≠ (ref11_Within a0 a1))) ∨ ((span_Has a0 a2) ≠ (ref11_Has a0 a2))) ∨ ((span_Right a0) ≠ (ref11_Right a0))) ∨ (((span_Of a2).Lo ≠ (ref11_Of a2).Lo) ∨ ((span_Of a2).Hi ≠ (ref11_Of a2).Hi)) := (orMap (bAndF hg145) (fun h => (orMap (bAndF h) (fun h => (orMap (bAndF h) (fun h => (orMap (bAndF h) (fun h => (orMap (bAndF h) (fun h => (orMap (bAndF h) (fun h => (orMap (bAndF h) (fun h => (bEqF h)) (fun h => (bEqF h)))) (fun h => (bEqF h)))) (fun h => (orMap (bAndF h) (fun h => (bEqF h)) (fun h => (bEqF h)))))) (fun h => (bEqF h)))) (fun h => (bEqF h)))) (fun h => (bEqF h)))) (fun h => (orMap (bAndF h) (fun h => (bEqF h)) (fun h => (bEqF h)))))
   intro hM146
   refine WQ.pass1 (dst := some 75) (by kernel_rfl) ?_
   refine WQ.pass1 (dst := some 76) (by kernel_rfl) ?_
   refine WQ.pass1 (dst := some 77) (by kernel_rfl) ?_
   refine WQ.pass1 (dst := some 78) (by kernel_rfl) ?_
   refine WQ.pass1 (dst := some 79) (by kernel_rfl) ?_
   refine WQ.val (dst := some 80) (.bool false) (fun _ => by kernel_rfl) ?_
   exact WQ.keep [80] (by kernel_rfl) hM146
  ·
   have hk148 := hg145
   replace hg145 : (((((((x24.1.Lo = x50.1.Lo) ∧ (x24.1.Hi = x50.1.Hi)) ∧ (x24.2 = x50.2)) ∧ (((span_Join a0 a1).Lo = (ref11_Join a0 a1).Lo) ∧ ((span_Join a0 a1).Hi = (ref11_Join a0 a1).Hi))) ∧ ((span_Within a0 a1) = (ref11_Within a0 a1))) ∧ ((span_Has a0 a2) = (ref11_Has a0 a2))) ∧ ((span_Right a0) = (ref11_Right a0))) ∧ (((span_Of a2).Lo = (ref11_Of a2).Lo) ∧ ((span_Of a2).Hi = (ref11_Of a2).Hi)) := ⟨⟨⟨⟨⟨⟨⟨(bEqT (bAndT (bAndT (bAndT (bAndT (bAndT (bAndT (bAndT hg145).1).1).1).1).1).1).1), (bEqT (bAndT (bAndT (bAndT (bAndT (bAndT (bAndT (bAndT hg145).1).1).1).1).1).1).2)⟩, (bEqT (bAndT (bAndT (bAndT (bAndT (bAndT (bAndT hg145).1).1).1).1).1).2)⟩, ⟨(bEqT (bAndT (bAndT (bAndT (bAndT (bAndT (bAndT hg145).1).1).1).1).2).1), (bEqT (bAndT (bAndT (bAndT (bAndT (bAndT (bAndT hg145).1).1).1).1).2).2)⟩⟩, (bEqT (bAndT (bAndT (bAndT (bAndT hg145).1).1).1).2)⟩, (bEqT (bAndT (bAndT (bAndT hg145).1).1).2)⟩, (bEqT (bAndT (bAndT hg145).1).2)⟩, ⟨(bEqT (bAndT (bAndT hg145).2).1), (bEqT (bAndT (bAndT hg145).2).2)⟩⟩
   intro hM146
   refine WQ.val (dst := some 75) (.bool a3) (fun _ => by kernel_rfl) ?_
   have hx149 : IU64 (span_All a3).Lo ∧ IU64 (span_All a3).Hi := span_All_ok a3 
   refine WQ.call (dst := some 76) (.agg #[.int .u64 (span_All a3).Lo, .int .u64 (span_All a3).Hi]) (fun _ => by kernel_rfl) (fun _ _ h h' => h.pure h') (fun wq hq => span_All_any a3 wq  ) ?_
   refine WQ.val (dst := some 77) (.bool a3) (fun _ => by kernel_rfl) ?_
   have hx150 : IU64 (ref11_All a3).Lo ∧ IU64 (ref11_All a3).Hi := ref11_All_ok a3 
   refine WQ.call (dst := some 78) (.agg #[.int .u64 (ref11_All a3).Lo, .int .u64 (ref11_All a3).Hi]) (fun _ => by kernel_rfl) (fun _ _ h h' => h.pure h') (fun wq hq => ref11_All_any a3 wq  ) ?_
   refine WQ.val (dst := some 79) (.bool (((span_All a3).Lo == (ref11_All a3).Lo) && ((span_All a3).Hi == (ref11_All a3).Hi))) (run_eqS (t := 25) (xs := #[.int .u64 (span_All a3).Lo, .int .u64 (span_All a3).Hi]) (ys := #[.int .u64 (ref11_All a3).Lo, .int .u64 (ref11_All a3).Hi]) (neg := false) (b := (((span_All a3).Lo == (ref11_All a3).Lo) && ((span_All a3).Hi == (ref11_All a3).Hi))) (by kernel_rfl) (by kernel_rfl) (by kernel_rfl)) ?_
   refine WQ.val (dst := some 80) (.bool (((span_All a3).Lo == (ref11_All a3).Lo) && ((span_All a3).Hi == (ref11_All a3).Hi))) (fun _ => by kernel_rfl) ?_
   exact WQ.keep [80] (by kernel_rfl) hM146
 have hx151 : IU64 (span_Join a0 a1).Lo ∧ IU64 (span_Join a0 a1).Hi := span_Join_ok a0 a1 ⟨(by omega), (by omega)⟩ ⟨(by omega), (by omega)⟩ 
 have hx152 : IU64 (ref11_Join a0 a1).Lo ∧ IU64 (ref11_Join a0 a1).Hi := ref11_Join_ok a0 a1 ⟨(by omega), (by omega)⟩ ⟨(by omega), (by omega)⟩ 
 have hx153 : IU64 (span_Of a2).Lo ∧ IU64 (span_Of a2).Hi := span_Of_ok a2 (by omega) 
 have hx154 : IU64 (ref11_Of a2).Lo ∧ IU64 (ref11_Of a2).Hi := ref11_Of_ok a2 (by omega) 
 have hx155 : IU64 (span_All a3).Lo ∧ IU64 (span_All a3).Hi := span_All_ok a3 
 have hx156 : IU64 (ref11_All a3).Lo ∧ IU64 (ref11_All a3).Hi := ref11_All_ok a3 
 refine WQ.val (dst := some 81) (.bool (((((((((x24.1.Lo == x50.1.Lo) && (x24.1.Hi == x50.1.Hi)) && (x24.2 == x50.2)) && (((span_Join a0 a1).Lo == (ref11_Join a0 a1).Lo) && ((span_Join a0 a1).Hi == (ref11_Join a0 a1).Hi))) && ((span_Within a0 a1) == (ref11_Within a0 a1))) && ((span_Has a0 a2) == (ref11_Has a0 a2))) && ((span_Right a0) == (ref11_Right a0))) && (((span_Of a2).Lo == (ref11_Of a2).Lo) && ((span_Of a2).Hi == (ref11_Of a2).Hi))) && (((span_All a3).Lo == (ref11_All a3).Lo) && ((span_All a3).Hi == (ref11_All a3).Hi)))) (fun _ => by kernel_rfl) ?_
 refine WQ.merge 59 [(83, .bool ((((((((((x24.1.Lo == x50.1.Lo) && (x24.1.Hi == x50.1.Hi)) && (x24.2 == x50.2)) && (((span_Join a0 a1).Lo == (ref11_Join a0 a1).Lo) && ((span_Join a0 a1).Hi == (ref11_Join a0 a1).Hi))) && ((span_Within a0 a1) == (ref11_Within a0 a1))) && ((span_Has a0 a2) == (ref11_Has a0 a2))) && ((span_Right a0) == (ref11_Right a0))) && (((span_Of a2).Lo == (ref11_Of a2).Lo) && ((span_Of a2).Hi == (ref11_Of a2).Hi))) && (((span_All a3).Lo == (ref11_All a3).Lo) && ((span_All a3).Hi == (ref11_All a3).Hi))) && q_law11_awake))] (fun Q' => ?_) ?_
 ·
  cases hg157 : (((((((((x24.1.Lo == x50.1.Lo) && (x24.1.Hi == x50.1.Hi)) && (x24.2 == x50.2)) && (((span_Join a0 a1).Lo == (ref11_Join a0 a1).Lo) && ((span_Join a0 a1).Hi == (ref11_Join a0 a1).Hi))) && ((span_Within a0 a1) == (ref11_Within a0 a1))) && ((span_Has a0 a2) == (ref11_Has a0 a2))) && ((span_Right a0) == (ref11_Right a0))) && (((span_Of a2).Lo == (ref11_Of a2).Lo) && ((span_Of a2).Hi == (ref11_Of a2).Hi))) && (((span_All a3).Lo == (ref11_All a3).Lo) && ((span_All a3).Hi == (ref11_All a3).Hi)))
  ·
   have hk159 := hg157
   replace hg157 : ((((((((x24.1.Lo ≠ x50.1.Lo) ∨ (x24.1.Hi ≠ x50.1.Hi)) ∨ (x24.2 ≠ x50.2)) ∨ (((span_Join a0 a1).Lo ≠ (ref11_Join a0 a1).Lo) ∨ ((span_Join a0 a1).Hi ≠ (ref11_Join a0 a1).Hi))) ∨ ((span_Within a0 a1) ≠ (ref11_Within a0 a1))) ∨ ((span_Has a0 a2) ≠ (ref11_Has a0 a2))) ∨ ((span_Right a0) ≠ (ref11_Right a0))) ∨ (((span_Of a2).Lo ≠ (ref11_Of a2).Lo) ∨ ((span_Of a2).Hi ≠ (ref11_Of a2).Hi))) ∨ (((span_All a3).Lo ≠ (ref11_All a3).Lo) ∨ ((span_All a3).Hi ≠ (ref11_All a3).Hi)) := (orMap (bAndF hg157) (fun h => (orMap (bAndF h) (fun h => (orMap (bAndF h) (fun h => (orMap (bAndF h) (fun h => (orMap (bAndF h) (fun h => (orMap (bAndF h) (fun h => (orMap (bAndF h) (fun h => (orMap (bAndF h) (fun h => (bEqF h)) (fun h => (bEqF h)))) (fun h => (bEqF h)))) (fun h => (orMap (bAndF h) (fun h => (bEqF h)) (fun h => (bEqF h)))))) (fun h => (bEqF h)))) (fun h => (bEqF h)))) (fun h => (bEqF h)))) (fun h => (orMap (bAndF h) (fun h => (bEqF h)) (fun h => (bEqF h)))))) (fun h => (orMap (bAndF h) (fun h => (bEqF h)) (fun h => (bEqF h)))))
   intro hM158
   refine WQ.pass1 (dst := some 82) (by kernel_rfl) ?_
   refine WQ.val (dst := some 83) (.bool false) (fun _ => by kernel_rfl) ?_
   exact WQ.keep [83] (by kernel_rfl) hM158
  ·
   have hk160 := hg157
   replace hg157 : ((((((((x24.1.Lo = x50.1.Lo) ∧ (x24.1.Hi = x50.1.Hi)) ∧ (x24.2 = x50.2)) ∧ (((span_Join a0 a1).Lo = (ref11_Join a0 a1).Lo) ∧ ((span_Join a0 a1).Hi = (ref11_Join a0 a1).Hi))) ∧ ((span_Within a0 a1) = (ref11_Within a0 a1))) ∧ ((span_Has a0 a2) = (ref11_Has a0 a2))) ∧ ((span_Right a0) = (ref11_Right a0))) ∧ (((span_Of a2).Lo = (ref11_Of a2).Lo) ∧ ((span_Of a2).Hi = (ref11_Of a2).Hi))) ∧ (((span_All a3).Lo = (ref11_All a3).Lo) ∧ ((span_All a3).Hi = (ref11_All a3).Hi)) := ⟨⟨⟨⟨⟨⟨⟨⟨(bEqT (bAndT (bAndT (bAndT (bAndT (bAndT (bAndT (bAndT (bAndT hg157).1).1).1).1).1).1).1).1), (bEqT (bAndT (bAndT (bAndT (bAndT (bAndT (bAndT (bAndT (bAndT hg157).1).1).1).1).1).1).1).2)⟩, (bEqT (bAndT (bAndT (bAndT (bAndT (bAndT (bAndT (bAndT hg157).1).1).1).1).1).1).2)⟩, ⟨(bEqT (bAndT (bAndT (bAndT (bAndT (bAndT (bAndT (bAndT hg157).1).1).1).1).1).2).1), (bEqT (bAndT (bAndT (bAndT (bAndT (bAndT (bAndT (bAndT hg157).1).1).1).1).1).2).2)⟩⟩, (bEqT (bAndT (bAndT (bAndT (bAndT (bAndT hg157).1).1).1).1).2)⟩, (bEqT (bAndT (bAndT (bAndT (bAndT hg157).1).1).1).2)⟩, (bEqT (bAndT (bAndT (bAndT hg157).1).1).2)⟩, ⟨(bEqT (bAndT (bAndT (bAndT hg157).1).2).1), (bEqT (bAndT (bAndT (bAndT hg157).1).2).2)⟩⟩, ⟨(bEqT (bAndT (bAndT hg157).2).1), (bEqT (bAndT (bAndT hg157).2).2)⟩⟩
   intro hM158
   refine WQ.call (dst := some 82) (.bool q_law11_awake) (fun _ => by kernel_rfl) (fun _ _ h h' => h.pure h') (fun wq hq => (hq_law11_awake ▸ law11_awake_any  wq)) ?_
   refine WQ.val (dst := some 83) (.bool q_law11_awake) (fun _ => by kernel_rfl) ?_
   exact WQ.keep [83] (by kernel_rfl) hM158
 have hx161 : IU64 (span_Join a0 a1).Lo ∧ IU64 (span_Join a0 a1).Hi := span_Join_ok a0 a1 ⟨(by omega), (by omega)⟩ ⟨(by omega), (by omega)⟩ 
 have hx162 : IU64 (ref11_Join a0 a1).Lo ∧ IU64 (ref11_Join a0 a1).Hi := ref11_Join_ok a0 a1 ⟨(by omega), (by omega)⟩ ⟨(by omega), (by omega)⟩ 
 have hx163 : IU64 (span_Of a2).Lo ∧ IU64 (span_Of a2).Hi := span_Of_ok a2 (by omega) 
 have hx164 : IU64 (ref11_Of a2).Lo ∧ IU64 (ref11_Of a2).Hi := ref11_Of_ok a2 (by omega) 
 have hx165 : IU64 (span_All a3).Lo ∧ IU64 (span_All a3).Hi := span_All_ok a3 
 have hx166 : IU64 (ref11_All a3).Lo ∧ IU64 (ref11_All a3).Hi := ref11_All_ok a3 
 refine WQ.val (dst := some 8) (.bool ((((((((((x24.1.Lo == x50.1.Lo) && (x24.1.Hi == x50.1.Hi)) && (x24.2 == x50.2)) && (((span_Join a0 a1).Lo == (ref11_Join a0 a1).Lo) && ((span_Join a0 a1).Hi == (ref11_Join a0 a1).Hi))) && ((span_Within a0 a1) == (ref11_Within a0 a1))) && ((span_Has a0 a2) == (ref11_Has a0 a2))) && ((span_Right a0) == (ref11_Right a0))) && (((span_Of a2).Lo == (ref11_Of a2).Lo) && ((span_Of a2).Hi == (ref11_Of a2).Hi))) && (((span_All a3).Lo == (ref11_All a3).Lo) && ((span_All a3).Hi == (ref11_All a3).Hi))) && q_law11_awake)) (fun _ => by kernel_rfl) ?_
 refine WQ.fin (by kernel_rfl) ?_
 intro w167 hc168
 have hz170 := hc168.size
 have hC169 := hC71.pure hc168
 refine go hK73 ?_
 refine CW.ret ?_
 exact retV (.bool ((((((((((x24.1.Lo == x50.1.Lo) && (x24.1.Hi == x50.1.Hi)) && (x24.2 == x50.2)) && (((span_Join a0 a1).Lo == (ref11_Join a0 a1).Lo) && ((span_Join a0 a1).Hi == (ref11_Join a0 a1).Hi))) && ((span_Within a0 a1) == (ref11_Within a0 a1))) && ((span_Has a0 a2) == (ref11_Has a0 a2))) && ((span_Right a0) == (ref11_Right a0))) && (((span_Of a2).Lo == (ref11_Of a2).Lo) && ((span_Of a2).Hi == (ref11_Of a2).Hi))) && (((span_All a3).Lo == (ref11_All a3).Lo) && ((span_All a3).Hi == (ref11_All a3).Hi))) && q_law11_awake)) (by kernel_rfl) (⟨hC169, (congrArg (fun r : Bool => (.bool r : Value)) hs53).symm⟩)
end Go.V
