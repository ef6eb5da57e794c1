import Derived.Test.YtjiagljaipadmaaProg
import Derived.Test.YtjiagljaipadmaaSx
namespace Go.V
open Go.RowKit Go.Proofs
def span_work_plain (a0 : Twork) (a1 : Int)  : Option (TSpan × TSpan) := (if (a1 == (17 : Int)) then (letF (span_Meet a0.a a0.b) fun x39 => (optF (span_must x39.2) (none) fun _ => some (x39.1, x39.1))) else (if (a1 == (18 : Int)) then (letF (span_work_both a0) fun x132 => (optF (span_must ((!x132) || (!((a0.a.Lo == a0.b.Lo) && (a0.a.Hi == a0.b.Hi))))) (none) fun _ => (letF (span_without a0.b a0.a) fun x220 => some ((span_without a0.a a0.b), x220)))) else (if (a1 == (19 : Int)) then (optF (span_must (decide (a0.a.Hi > a0.b.Lo))) (none) fun _ => some ((⟨(gMax a0.a.Lo (IntKind.u64.wrap (a0.b.Lo + (1 : Int)))), a0.a.Hi⟩ : TSpan), (⟨a0.b.Lo, (gMin a0.b.Hi (IntKind.u64.wrap (a0.a.Hi - (1 : Int))))⟩ : TSpan))) else (if (a1 == (20 : Int)) then (optF (span_must (decide (a0.a.Hi ≥ a0.b.Lo))) (none) fun _ => some ((⟨(gMax a0.a.Lo a0.b.Lo), a0.a.Hi⟩ : TSpan), (⟨a0.b.Lo, (gMin a0.b.Hi a0.a.Hi)⟩ : TSpan))) else (if (a1 == (21 : Int)) then (letF (span_work_turned a0) fun x462 => (optF (span_work_plain_19 x462) (none) fun x470 => some (x470.2, x470.1))) else (if (a1 == (22 : Int)) then (letF (span_work_turned a0) fun x550 => (optF (span_work_plain_20 x550) (none) fun x558 => some (x558.2, x558.1))) else some ((⟨(0 : Int), (0 : Int)⟩ : TSpan), (⟨(0 : Int), (0 : Int)⟩ : TSpan))))))))

theorem span_work_plain_ok (a0 : Twork) (a1 : Int)  (_h_a0 : IU64 a0.a.Lo ∧ IU64 a0.a.Hi ∧ IU64 a0.b.Lo ∧ IU64 a0.b.Hi ∧ IU64 a0.most ∧ IU64 a0.size) (_h_a1 : IU8 a1)  : ∀ y, (span_work_plain a0 a1) = some y → IU64 y.1.Lo ∧ IU64 y.1.Hi ∧ IU64 y.2.Lo ∧ IU64 y.2.Hi := by
 rw [span_work_plain.eq_1]
 refine iteR (p := fun r : Option (TSpan × TSpan) => ∀ y, r = some y → IU64 y.1.Lo ∧ IU64 y.1.Hi ∧ IU64 y.2.Lo ∧ IU64 y.2.Hi) (fun hi1001 => ?_) (fun hi1001 => ?_)
 ·
  replace hi1001 : a1 = (17 : Int) := (bEqT hi1001)
  refine letR (p := fun r : Option (TSpan × TSpan) => ∀ y, r = some y → IU64 y.1.Lo ∧ IU64 y.1.Hi ∧ IU64 y.2.Lo ∧ IU64 y.2.Hi) fun x39 hx40 => ?_
  have hx41 : IU64 x39.1.Lo ∧ IU64 x39.1.Hi := by rw [← hx40]; exact span_Meet_ok a0.a a0.b ⟨(by omega), (by omega)⟩ ⟨(by omega), (by omega)⟩ 
  refine optR (p := fun r : Option (TSpan × TSpan) => ∀ y, r = some y → IU64 y.1.Lo ∧ IU64 y.1.Hi ∧ IU64 y.2.Lo ∧ IU64 y.2.Hi) (fun _ => ?_) (fun x63 _ => ?_)
  ·
   intro y hy; cases hy
  intro y hy; cases hy; exact (by exact (show IU64 x39.1.Lo ∧ IU64 x39.1.Hi ∧ IU64 x39.1.Lo ∧ IU64 x39.1.Hi from ⟨(by omega), (by omega), (by omega), (by omega)⟩))
 replace hi1001 : a1 ≠ (17 : Int) := (bEqF hi1001)
 refine iteR (p := fun r : Option (TSpan × TSpan) => ∀ y, r = some y → IU64 y.1.Lo ∧ IU64 y.1.Hi ∧ IU64 y.2.Lo ∧ IU64 y.2.Hi) (fun hi1002 => ?_) (fun hi1002 => ?_)
 ·
  replace hi1002 : a1 = (18 : Int) := (bEqT hi1002)
  refine letR (p := fun r : Option (TSpan × TSpan) => ∀ y, r = some y → IU64 y.1.Lo ∧ IU64 y.1.Hi ∧ IU64 y.2.Lo ∧ IU64 y.2.Hi) fun x132 _ => ?_
  refine optR (p := fun r : Option (TSpan × TSpan) => ∀ y, r = some y → IU64 y.1.Lo ∧ IU64 y.1.Hi ∧ IU64 y.2.Lo ∧ IU64 y.2.Hi) (fun _ => ?_) (fun x148 _ => ?_)
  ·
   intro y hy; cases hy
  refine letR (p := fun r : Option (TSpan × TSpan) => ∀ y, r = some y → IU64 y.1.Lo ∧ IU64 y.1.Hi ∧ IU64 y.2.Lo ∧ IU64 y.2.Hi) fun x220 hx221 => ?_
  have hx222 : IU64 x220.Lo ∧ IU64 x220.Hi := by rw [← hx221]; exact span_without_ok a0.b a0.a ⟨(by omega), (by omega)⟩ ⟨(by omega), (by omega)⟩ 
  intro y hy; cases hy; exact (by have : IU64 (span_without a0.a a0.b).Lo ∧ IU64 (span_without a0.a a0.b).Hi := span_without_ok a0.a a0.b ⟨(by omega), (by omega)⟩ ⟨(by omega), (by omega)⟩ ; exact (show IU64 (span_without a0.a a0.b).Lo ∧ IU64 (span_without a0.a a0.b).Hi ∧ IU64 x220.Lo ∧ IU64 x220.Hi from ⟨(by omega), (by omega), (by omega), (by omega)⟩))
 replace hi1002 : a1 ≠ (18 : Int) := (bEqF hi1002)
 refine iteR (p := fun r : Option (TSpan × TSpan) => ∀ y, r = some y → IU64 y.1.Lo ∧ IU64 y.1.Hi ∧ IU64 y.2.Lo ∧ IU64 y.2.Hi) (fun hi1003 => ?_) (fun hi1003 => ?_)
 ·
  replace hi1003 : a1 = (19 : Int) := (bEqT hi1003)
  refine optR (p := fun r : Option (TSpan × TSpan) => ∀ y, r = some y → IU64 y.1.Lo ∧ IU64 y.1.Hi ∧ IU64 y.2.Lo ∧ IU64 y.2.Hi) (fun _ => ?_) (fun x247 _ => ?_)
  ·
   intro y hy; cases hy
  intro y hy; cases hy; exact (by exact (show IU64 (gMax a0.a.Lo (IntKind.u64.wrap (a0.b.Lo + (1 : Int)))) ∧ IU64 a0.a.Hi ∧ IU64 a0.b.Lo ∧ IU64 (gMin a0.b.Hi (IntKind.u64.wrap (a0.a.Hi - (1 : Int)))) from ⟨(gMax_rng (by omega) (wrapU64 _)), (by omega), (by omega), (gMin_rng (by omega) (wrapU64 _))⟩))
 replace hi1003 : a1 ≠ (19 : Int) := (bEqF hi1003)
 refine iteR (p := fun r : Option (TSpan × TSpan) => ∀ y, r = some y → IU64 y.1.Lo ∧ IU64 y.1.Hi ∧ IU64 y.2.Lo ∧ IU64 y.2.Hi) (fun hi1004 => ?_) (fun hi1004 => ?_)
 ·
  replace hi1004 : a1 = (20 : Int) := (bEqT hi1004)
  refine optR (p := fun r : Option (TSpan × TSpan) => ∀ y, r = some y → IU64 y.1.Lo ∧ IU64 y.1.Hi ∧ IU64 y.2.Lo ∧ IU64 y.2.Hi) (fun _ => ?_) (fun x355 _ => ?_)
  ·
   intro y hy; cases hy
  intro y hy; cases hy; exact (by exact (show IU64 (gMax a0.a.Lo a0.b.Lo) ∧ IU64 a0.a.Hi ∧ IU64 a0.b.Lo ∧ IU64 (gMin a0.b.Hi a0.a.Hi) from ⟨(gMax_rng (by omega) (by omega)), (by omega), (by omega), (gMin_rng (by omega) (by omega))⟩))
 replace hi1004 : a1 ≠ (20 : Int) := (bEqF hi1004)
 refine iteR (p := fun r : Option (TSpan × TSpan) => ∀ y, r = some y → IU64 y.1.Lo ∧ IU64 y.1.Hi ∧ IU64 y.2.Lo ∧ IU64 y.2.Hi) (fun hi1005 => ?_) (fun hi1005 => ?_)
 ·
  replace hi1005 : a1 = (21 : Int) := (bEqT hi1005)
  refine letR (p := fun r : Option (TSpan × TSpan) => ∀ y, r = some y → IU64 y.1.Lo ∧ IU64 y.1.Hi ∧ IU64 y.2.Lo ∧ IU64 y.2.Hi) fun x462 hx463 => ?_
  have hx464 : IU64 x462.a.Lo ∧ IU64 x462.a.Hi ∧ IU64 x462.b.Lo ∧ IU64 x462.b.Hi ∧ IU64 x462.most ∧ IU64 x462.size := by rw [← hx463]; exact span_work_turned_ok a0 ⟨(by omega), (by omega), (by omega), (by omega), (by omega), (by omega)⟩ 
  refine optR (p := fun r : Option (TSpan × TSpan) => ∀ y, r = some y → IU64 y.1.Lo ∧ IU64 y.1.Hi ∧ IU64 y.2.Lo ∧ IU64 y.2.Hi) (fun _ => ?_) (fun x470 hx471 => ?_)
  ·
   intro y hy; cases hy
  have hx472 : IU64 x470.1.Lo ∧ IU64 x470.1.Hi ∧ IU64 x470.2.Lo ∧ IU64 x470.2.Hi := by exact span_work_plain_19_ok x462 ⟨(by omega), (by omega), (by omega), (by omega), (by omega), (by omega)⟩  _ hx471
  intro y hy; cases hy; exact (by exact (show IU64 x470.2.Lo ∧ IU64 x470.2.Hi ∧ IU64 x470.1.Lo ∧ IU64 x470.1.Hi from ⟨(by omega), (by omega), (by omega), (by omega)⟩))
 replace hi1005 : a1 ≠ (21 : Int) := (bEqF hi1005)
 refine iteR (p := fun r : Option (TSpan × TSpan) => ∀ y, r = some y → IU64 y.1.Lo ∧ IU64 y.1.Hi ∧ IU64 y.2.Lo ∧ IU64 y.2.Hi) (fun hi1006 => ?_) (fun hi1006 => ?_)
 ·
  replace hi1006 : a1 = (22 : Int) := (bEqT hi1006)
  refine letR (p := fun r : Option (TSpan × TSpan) => ∀ y, r = some y → IU64 y.1.Lo ∧ IU64 y.1.Hi ∧ IU64 y.2.Lo ∧ IU64 y.2.Hi) fun x550 hx551 => ?_
  have hx552 : IU64 x550.a.Lo ∧ IU64 x550.a.Hi ∧ IU64 x550.b.Lo ∧ IU64 x550.b.Hi ∧ IU64 x550.most ∧ IU64 x550.size := by rw [← hx551]; exact span_work_turned_ok a0 ⟨(by omega), (by omega), (by omega), (by omega), (by omega), (by omega)⟩ 
  refine optR (p := fun r : Option (TSpan × TSpan) => ∀ y, r = some y → IU64 y.1.Lo ∧ IU64 y.1.Hi ∧ IU64 y.2.Lo ∧ IU64 y.2.Hi) (fun _ => ?_) (fun x558 hx559 => ?_)
  ·
   intro y hy; cases hy
  have hx560 : IU64 x558.1.Lo ∧ IU64 x558.1.Hi ∧ IU64 x558.2.Lo ∧ IU64 x558.2.Hi := by exact span_work_plain_20_ok x550 ⟨(by omega), (by omega), (by omega), (by omega), (by omega), (by omega)⟩  _ hx559
  intro y hy; cases hy; exact (by exact (show IU64 x558.2.Lo ∧ IU64 x558.2.Hi ∧ IU64 x558.1.Lo ∧ IU64 x558.1.Hi from ⟨(by omega), (by omega), (by omega), (by omega)⟩))
 replace hi1006 : a1 ≠ (22 : Int) := (bEqF hi1006)
 intro y hy; cases hy; exact (by exact (show IU64 (0 : Int) ∧ IU64 (0 : Int) ∧ IU64 (0 : Int) ∧ IU64 (0 : Int) from ⟨(by omega), (by omega), (by omega), (by omega)⟩))

set_option maxRecDepth 100000 in
set_option maxHeartbeats 4000000 in
theorem span_work_plain_any (a0 : Twork) (a1 : Int)   (w : World)  (_h_a0 : IU64 a0.a.Lo ∧ IU64 a0.a.Hi ∧ IU64 a0.b.Lo ∧ IU64 a0.b.Hi ∧ IU64 a0.most ∧ IU64 a0.size) (_h_a1 : IU8 a1)  : Calls Try.prog 93 #[.agg #[.int .u64 a0.a.Lo, .int .u64 a0.a.Hi, .int .u64 a0.b.Lo, .int .u64 a0.b.Hi, .bool a0.narrow, .int .u64 a0.most, .int .u64 a0.size], .int .u8 a1] w (RetP w (.iface 76 (.agg #[])) (((span_work_plain a0 a1)).map (fun r : (TSpan × TSpan) => (.tuple #[TSpan.v r.1, TSpan.v r.2] : Value)))) := by
 have hs := span_work_plain.eq_1 a0 a1
 refine calls_of_CW Try.func93 rfl (n := 130) Try.ntmps93 (by kernel_rfl) [0, 1] (F := [(0, .agg #[.int .u64 a0.a.Lo, .int .u64 a0.a.Hi, .int .u64 a0.b.Lo, .int .u64 a0.b.Hi, .bool a0.narrow, .int .u64 a0.most, .int .u64 a0.size]), (1, .int .u8 a1)]) (by kernel_rfl) ?_
 refine CW.seq fun K1 hK1 => ?_
 refine CW.region ?_
 refine WR.box (dst := some 2) (e := 79) (v := .agg #[.int .u64 a0.a.Lo, .int .u64 a0.a.Hi, .int .u64 a0.b.Lo, .int .u64 a0.b.Hi, .bool a0.narrow, .int .u64 a0.most, .int .u64 a0.size]) (by kernel_rfl) #[.int .u64 a0.a.Lo, .int .u64 a0.a.Hi, .int .u64 a0.b.Lo, .int .u64 a0.b.Hi, .bool a0.narrow, .int .u64 a0.most, .int .u64 a0.size] (by kernel_rfl) ?_
 intro g2 w3 hN4
 have hf6 : w.heap.size ≤ g2 := hN4.fresh
 have hfr8 := hN4.fresh
 have hc7 := hN4.chg
 have hz10 := hc7.size
 have hC9 := (Chg.refl [] w).pure hc7
 have hb5 := hN4.blk
 have hg11 := hb5.lt
 refine WR.alloc (dst := some 4) (e := 25) (by kernel_rfl) #[.int .u64 0, .int .u64 0] (by kernel_rfl) ?_
 intro g12 w13 hN14
 have hf16 : w.heap.size ≤ g12 := Nat.le_trans hC9.size hN14.fresh
 have hfr18 := hN14.fresh
 have hc17 := hN14.chg
 have hz20 := hc17.size
 have hC19 := hC9.pure hc17
 have hb15 := hN14.blk
 have hg21 := hb15.lt
 refine WR.alloc (dst := some 5) (e := 25) (by kernel_rfl) #[.int .u64 0, .int .u64 0] (by kernel_rfl) ?_
 intro g22 w23 hN24
 have hf26 : w.heap.size ≤ g22 := Nat.le_trans hC19.size hN24.fresh
 have hfr28 := hN24.fresh
 have hc27 := hN24.chg
 have hz30 := hc27.size
 have hC29 := hC19.pure hc27
 have hb25 := hN24.blk
 have hg31 := hb25.lt
 refine WR.fin (by kernel_rfl) ?_
 refine go hK1 ?_
 refine CW.seq fun K32 hK32 => ?_
 refine CW.seq fun K33 hK33 => ?_
 refine CW.region ?_
 refine WR.batch 1 [(2, pt g2 0), (4, pt g12 0), (5, pt g22 0), (8, .int .u8 a1)] (by kernel_rfl) ?_
 refine WR.fin (by kernel_rfl) ?_
 refine go hK33 ?_
 refine CW.block ?_
 refine CW.seq fun K34 hK34 => ?_
 refine CW.region ?_
 refine WR.batch 2 [(2, pt g2 0), (4, pt g12 0), (5, pt g22 0), (8, .int .u8 a1), (9, .bool (a1 == (17 : Int)))] (by kernel_rfl) ?_
 refine WR.fin (by kernel_rfl) ?_
 refine go hK34 ?_
 refine CW.cond ((a1 == (17 : Int))) (by kernel_rfl) (fun ht35 => ?_) (fun ht35 => ?_)
 ·
  have hs36 := ifT ht35 hs
  replace ht35 : a1 = (17 : Int) := (bEqT ht35)
  refine CW.seq fun K37 hK37 => ?_
  refine CW.region ?_
  refine WR.batch 1 [(2, pt g2 0), (4, pt g12 0), (5, pt g22 0), (12, pt g2 0)] (by kernel_rfl) ?_
  have hb38 := (hb5.pure hc17).pure hc27
  refine WR.load (dst := some 13) (t := 25) (o := 0) hb38 (by kernel_rfl) (.agg #[.int .u64 a0.a.Lo, .int .u64 a0.a.Hi]) (by kernel_rfl) ?_
  refine WR.batch 1 [(4, pt g12 0), (5, pt g22 0), (13, .agg #[.int .u64 a0.a.Lo, .int .u64 a0.a.Hi]), (14, pt g2 2)] (by kernel_rfl) ?_
  refine WR.load (dst := some 15) (t := 25) (o := 2) hb38 (by kernel_rfl) (.agg #[.int .u64 a0.b.Lo, .int .u64 a0.b.Hi]) (by kernel_rfl) ?_
  obtain ⟨x39, hx40⟩ : ∃ x, span_Meet a0.a a0.b = x := ⟨_, rfl⟩
  have hs42 := letS hx40 hs36
  have hx41 : IU64 x39.1.Lo ∧ IU64 x39.1.Hi := by rw [← hx40]; exact span_Meet_ok a0.a a0.b ⟨(by omega), (by omega)⟩ ⟨(by omega), (by omega)⟩ 
  refine WR.call (dst := some 16) (by kernel_rfl) (retE (g := (fun r : (TSpan × Bool) => (.tuple #[TSpan.v r.1, .bool r.2] : Value))) hx40 (span_Meet_any a0.a a0.b w23  ⟨(by omega), (by omega)⟩ ⟨(by omega), (by omega)⟩ )) ?_
  rintro _ w43 hc44 rfl
  have hz46 := hc44.size
  have hC45 := hC29.pure hc44
  refine WR.batch 3 [(4, pt g12 0), (5, pt g22 0), (17, .agg #[.int .u64 x39.1.Lo, .int .u64 x39.1.Hi]), (18, .bool x39.2)] (by kernel_rfl) ?_
  refine WR.alloc (dst := some 6) (e := 25) (by kernel_rfl) #[.int .u64 0, .int .u64 0] (by kernel_rfl) ?_
  intro g47 w48 hN49
  have hf51 : w.heap.size ≤ g47 := Nat.le_trans hC45.size hN49.fresh
  have hfr53 := hN49.fresh
  have hc52 := hN49.chg
  have hz55 := hc52.size
  have hC54 := hC45.pure hc52
  have hb50 := hN49.blk
  have hg56 := hb50.lt
  refine WR.store (t := 25) (o := 0) (v := .agg #[.int .u64 x39.1.Lo, .int .u64 x39.1.Hi]) hb50 (by kernel_rfl) #[.int .u64 x39.1.Lo, .int .u64 x39.1.Hi] (by kernel_rfl) ?_
  intro w57 hb58 hc59
  have hz61 := hc59.size
  have hC60 := hC54.step1 hc59 (by omega)
  refine WR.batch 1 [(4, pt g12 0), (5, pt g22 0), (6, pt g47 0), (7, .bool x39.2)] (by kernel_rfl) ?_
  refine WR.fin (by kernel_rfl) ?_
  refine go hK37 ?_
  refine CW.seq fun K62 hK62 => ?_
  refine CW.region ?_
  refine WR.batch 1 [(4, pt g12 0), (5, pt g22 0), (6, pt g47 0), (19, .bool x39.2)] (by kernel_rfl) ?_
  rcases hx64 : span_must x39.2 with _ | x63
  ·
   have hs67 := optN hx64 hs42
   refine WR.callX (dst := some 20) (by kernel_rfl) (retP_no (g := (fun _ : Unit => (.tuple #[] : Value))) hx64 (span_must_any x39.2 w57  )) ?_
   intro w65 hc66
   have hz69 := hc66.size
   have hC68 := hC60.pure hc66
   exact panicV (P := Try.prog) (fn := Try.f93) (retP_pan hs67 hC68)
  have hs70 := optS hx64 hs42
  refine WR.call (dst := some 20) (by kernel_rfl) (retP_yes (g := (fun _ : Unit => (.tuple #[] : Value))) hx64 (span_must_any x39.2 w57  )) ?_
  rintro _ w71 hc72 rfl
  have hz74 := hc72.size
  have hC73 := hC60.pure hc72
  refine WR.fin (by kernel_rfl) ?_
  refine go hK62 ?_
  refine CW.seq fun K75 hK75 => ?_
  refine CW.keep [4, 5, 6] (F' := [(4, pt g12 0), (5, pt g22 0), (6, pt g47 0)]) (by kernel_rfl) ?_
  have hb76 := ((((hb15.pure hc27).pure hc44).pure hc52).chg1 hc59 (by omega)).pure hc72
  refine CW.regionG 3 [some (.agg #[.int .u64 x39.1.Lo, .int .u64 x39.1.Hi]), some (.agg #[.int .u64 x39.1.Lo, .int .u64 x39.1.Hi]), none] (fun u => [(21, .agg #[.int .u64 x39.1.Lo, .int .u64 x39.1.Hi]), (22, .agg #[.int .u64 x39.1.Lo, .int .u64 x39.1.Hi]), (4, pt g12 0), (5, pt g22 0), (6, pt g47 0)]) (fun _ => by kernel_rfl) (by kernel_rfl) [(2, g12)] (fun i w' => match i with | 0 => True | 1 => True | 2 => Blk w' g12 #[.int .u64 0, .int .u64 0] 25 | _ => True) (fun j => match j with | 0 => trivial | 1 => trivial | 2 => hb76.pure (Chg.drew w71) | j + 3 => trivial) ?_ [] [] (by kernel_rfl) (fun w' => Chg [g12] w71 w') (fun i v w' => match i with | 0 => True | 1 => True | 2 => Blk w' g12 #[.int .u64 x39.1.Lo, .int .u64 x39.1.Hi] 25 | _ => True) (fun j x w hj h => absurd hj (by simp)) (by kernel_rfl) (by kernel_rfl) (by kernel_rfl) (by kernel_rfl) ((Chg.drew w71).weak (by simp)) (fun _ _ _ h h' => h.step h' (fun t ht => .inl (cL_sub t ht))) ?_ ⟨?_, ⟨?_, ⟨?_, trivial⟩⟩⟩ ?_
  ·
   intro i j w1 w2 hij h hc
   match j, hij, h with
   | 0, hij, h => exact trivial
   | 1, hij, h => exact trivial
   | 2, hij, h => exact h.chg hc (cL_not (by intro p hp e; simp only [List.mem_cons, List.not_mem_nil, or_false] at hp; rcases hp with rfl <;> (simp only at e ⊢; omega)))
   | n + 3, _, _ => trivial
  ·
   intro i j v w1 w2 hij h hc
   match j, hij, h with
   | 0, _, _ => trivial
   | 1, _, _ => trivial
   | 2, hij, h => exact h.chg hc (cL_not (by intro p hp e; simp only [List.mem_cons, List.not_mem_nil, or_false] at hp; rcases hp with rfl <;> (simp only at e ⊢; omega)))
   | n + 3, _, _ => trivial
  ·
   intro u77 w78 hW79 hPr82 hp80 hal81
   have hz84 := hW79.size
   have hC83 := hC73.step1 hW79 (by omega)
   have hb85 : Blk w78 g12 #[.int .u64 0, .int .u64 0] 25 := hPr82 2 (.inr (.one (by kernel_rfl)))
   have hb86 := (hb58.pure hc72).chg1 hW79 (by omega)
   refine WR.load (dst := some 21) (t := 25) (o := 0) hb86 (by kernel_rfl) (.agg #[.int .u64 x39.1.Lo, .int .u64 x39.1.Hi]) (by kernel_rfl) ?_
   refine WR.fin (by kernel_rfl) ?_
   exact fun _ ha => ⟨Chg.refl _ _, _, ha, ⟨⟨fun h => absurd h (by decide), alNone (by decide)⟩, rfl⟩⟩
  ·
   intro u87 w88 hW89 _ hp90 hal91
   have hz94 := hW89.size
   have hC93 := hC73.step1 hW89 (by omega)
   have hb95 := (hb58.pure hc72).chg1 hW89 (by omega)
   refine WR.load (dst := some 22) (t := 25) (o := 0) hb95 (by kernel_rfl) (.agg #[.int .u64 x39.1.Lo, .int .u64 x39.1.Hi]) (by kernel_rfl) ?_
   refine WR.fin (by kernel_rfl) ?_
   exact fun _ ha => ⟨Chg.refl _ _, _, ha, ⟨⟨fun h => absurd h (by decide), alNone (by decide)⟩, rfl⟩⟩
  ·
   intro u96 w97 hW98 hPr101 hp99 hal100
   have hz103 := hW98.size
   have hC102 := hC73.step1 hW98 (by omega)
   have hb104 : Blk w97 g12 #[.int .u64 0, .int .u64 0] 25 := hPr101 2 (.inl rfl)
   refine WR.store (t := 25) (o := 0) (v := .agg #[.int .u64 x39.1.Lo, .int .u64 x39.1.Hi]) hb104 (by kernel_rfl) #[.int .u64 x39.1.Lo, .int .u64 x39.1.Hi] (by kernel_rfl) ?_
   intro w105 hb106 hc107
   have hz109 := hc107.size
   have hC108 := hC102.step1 hc107 (by omega)
   refine WR.fin (by kernel_rfl) ?_
   exact fun _ ha => ⟨hc107, undef, ha, ⟨⟨fun h => absurd h (by decide), alNone (by decide)⟩, hb106⟩⟩
  intro u110 w111 hW112 hr113 _ _
  have hz117 := hW112.size
  have hC116 := hC73.step1 hW112 (by omega)
  have hp118 : Blk w111 g12 #[.int .u64 x39.1.Lo, .int .u64 x39.1.Hi] 25 := hr113 2 (by omega) (by kernel_rfl)
  refine WR.keep [4, 5, 22] (F' := [(4, pt g12 0), (5, pt g22 0), (22, .agg #[.int .u64 x39.1.Lo, .int .u64 x39.1.Hi])]) (by kernel_rfl) ?_
  have hb122 := ((((hb25.pure hc44).pure hc52).chg1 hc59 (by omega)).pure hc72).chg1 hW112 (by omega)
  refine WR.store (t := 25) (o := 0) (v := .agg #[.int .u64 x39.1.Lo, .int .u64 x39.1.Hi]) hb122 (by kernel_rfl) #[.int .u64 x39.1.Lo, .int .u64 x39.1.Hi] (by kernel_rfl) ?_
  intro w119 hb120 hc121
  have hz124 := hc121.size
  have hC123 := hC116.step1 hc121 (by omega)
  refine WR.fin (by kernel_rfl) ?_
  refine go hK75 ?_
  refine CW.ret ?_
  have hb125 := hp118.chg1 hc121 (by omega)
  exact retC [.agg #[.int .u64 x39.1.Lo, .int .u64 x39.1.Hi], .agg #[.int .u64 x39.1.Lo, .int .u64 x39.1.Hi]] _ rfl ⟨resCell hb125 rfl (by kernel_rfl), resCell hb120 rfl (by kernel_rfl), trivial⟩ (retP_ret (g := (fun r : (TSpan × TSpan) => (.tuple #[TSpan.v r.1, TSpan.v r.2] : Value))) hs70 rfl hC123)
 have hs126 := ifF ht35 hs
 replace ht35 : a1 ≠ (17 : Int) := (bEqF ht35)
 refine CW.seq fun K127 hK127 => ?_
 refine CW.region ?_
 refine WR.batch 2 [(2, pt g2 0), (4, pt g12 0), (5, pt g22 0), (8, .int .u8 a1), (23, .bool (a1 == (18 : Int)))] (by kernel_rfl) ?_
 refine WR.fin (by kernel_rfl) ?_
 refine go hK127 ?_
 refine CW.cond ((a1 == (18 : Int))) (by kernel_rfl) (fun ht128 => ?_) (fun ht128 => ?_)
 ·
  have hs129 := ifT ht128 hs126
  replace ht128 : a1 = (18 : Int) := (bEqT ht128)
  refine CW.seq fun K130 hK130 => ?_
  refine CW.region ?_
  have hb131 := (hb5.pure hc17).pure hc27
  refine WR.load (dst := some 25) (t := 79) (o := 0) hb131 (by kernel_rfl) (.agg #[.int .u64 a0.a.Lo, .int .u64 a0.a.Hi, .int .u64 a0.b.Lo, .int .u64 a0.b.Hi, .bool a0.narrow, .int .u64 a0.most, .int .u64 a0.size]) (by kernel_rfl) ?_
  obtain ⟨x132, hx133⟩ : ∃ x, span_work_both a0 = x := ⟨_, rfl⟩
  have hs134 := letS hx133 hs129
  refine WR.call (dst := some 26) (by kernel_rfl) (retE (g := (fun r : Bool => (.bool r : Value))) hx133 (span_work_both_any a0 w23  ⟨(by omega), (by omega), (by omega), (by omega), (by omega), (by omega)⟩ )) ?_
  rintro _ w135 hc136 rfl
  have hz138 := hc136.size
  have hC137 := hC29.pure hc136
  refine WR.batch 2 [(2, pt g2 0), (4, pt g12 0), (5, pt g22 0), (28, .bool (!x132))] (by kernel_rfl) ?_
  refine WR.mergeW 10 [(2, pt g2 0), (4, pt g12 0), (5, pt g22 0), (34, .bool ((!x132) || (!((a0.a.Lo == a0.b.Lo) && (a0.a.Hi == a0.b.Hi)))))] (fun w' => Chg [] w135 w') (fun Q' => ?_) ?_
  ·
   cases hg139 : (!x132)
   ·
    have hk141 := hg139
    replace hg139 : x132 = true := (bNotF hg139)
    intro hM140
    refine WR.batch 1 [(2, pt g2 0), (4, pt g12 0), (5, pt g22 0), (28, .bool false), (29, pt g2 0)] (by kernel_rfl) ?_
    have hb142 := hb131.pure hc136
    refine WR.load (dst := some 30) (t := 25) (o := 0) hb142 (by kernel_rfl) (.agg #[.int .u64 a0.a.Lo, .int .u64 a0.a.Hi]) (by kernel_rfl) ?_
    refine WR.batch 1 [(2, pt g2 0), (4, pt g12 0), (5, pt g22 0), (28, .bool false), (30, .agg #[.int .u64 a0.a.Lo, .int .u64 a0.a.Hi]), (31, pt g2 2)] (by kernel_rfl) ?_
    refine WR.load (dst := some 32) (t := 25) (o := 2) hb142 (by kernel_rfl) (.agg #[.int .u64 a0.b.Lo, .int .u64 a0.b.Hi]) (by kernel_rfl) ?_
    refine WR.valR (dst := some 33) (v := .bool (!((a0.a.Lo == a0.b.Lo) && (a0.a.Hi == a0.b.Hi)))) (w' := w135) (run_eqS (t := 25) (xs := #[.int .u64 a0.a.Lo, .int .u64 a0.a.Hi]) (ys := #[.int .u64 a0.b.Lo, .int .u64 a0.b.Hi]) (neg := true) (b := ((a0.a.Lo == a0.b.Lo) && (a0.a.Hi == a0.b.Hi))) (by kernel_rfl) (by kernel_rfl) (by kernel_rfl) w135) ?_
    refine WR.batch 1 [(2, pt g2 0), (4, pt g12 0), (5, pt g22 0), (34, .bool (!((a0.a.Lo == a0.b.Lo) && (a0.a.Hi == a0.b.Hi))))] (by kernel_rfl) ?_
    exact WR.keep [2, 4, 5, 34] (by kernel_rfl) (hM140 _ (Chg.refl [] w135))
   ·
    have hk143 := hg139
    replace hg139 : x132 = false := (bNotT hg139)
    intro hM140
    refine WR.batch 6 [(2, pt g2 0), (4, pt g12 0), (5, pt g22 0), (34, .bool true)] (by kernel_rfl) ?_
    exact WR.keep [2, 4, 5, 34] (by kernel_rfl) (hM140 _ (Chg.refl [] w135))
  intro w144 hc145
  have hz147 := hc145.size
  have hC146 := hC137.pure hc145
  rcases hx149 : span_must ((!x132) || (!((a0.a.Lo == a0.b.Lo) && (a0.a.Hi == a0.b.Hi)))) with _ | x148
  ·
   have hs152 := optN hx149 hs134
   refine WR.callX (dst := some 35) (by kernel_rfl) (retP_no (g := (fun _ : Unit => (.tuple #[] : Value))) hx149 (span_must_any ((!x132) || (!((a0.a.Lo == a0.b.Lo) && (a0.a.Hi == a0.b.Hi)))) w144  )) ?_
   intro w150 hc151
   have hz154 := hc151.size
   have hC153 := hC146.pure hc151
   exact panicV (P := Try.prog) (fn := Try.f93) (retP_pan hs152 hC153)
  have hs155 := optS hx149 hs134
  refine WR.call (dst := some 35) (by kernel_rfl) (retP_yes (g := (fun _ : Unit => (.tuple #[] : Value))) hx149 (span_must_any ((!x132) || (!((a0.a.Lo == a0.b.Lo) && (a0.a.Hi == a0.b.Hi)))) w144  )) ?_
  rintro _ w156 hc157 rfl
  have hz159 := hc157.size
  have hC158 := hC146.pure hc157
  refine WR.fin (by kernel_rfl) ?_
  refine go hK130 ?_
  refine CW.seq fun K160 hK160 => ?_
  refine CW.keep [2, 4, 5] (F' := [(2, pt g2 0), (4, pt g12 0), (5, pt g22 0)]) (by kernel_rfl) ?_
  refine CW.regionG 9 [some (pt g2 0), some (.agg #[.int .u64 a0.a.Lo, .int .u64 a0.a.Hi]), some (pt g2 2), some (.agg #[.int .u64 a0.b.Lo, .int .u64 a0.b.Hi]), some (.agg #[.int .u64 (span_without a0.a a0.b).Lo, .int .u64 (span_without a0.a a0.b).Hi]), some (pt g2 2), some (.agg #[.int .u64 a0.b.Lo, .int .u64 a0.b.Hi]), some (pt g2 0), some (.agg #[.int .u64 a0.a.Lo, .int .u64 a0.a.Hi])] (fun u => [(36, pt g2 0), (37, .agg #[.int .u64 a0.a.Lo, .int .u64 a0.a.Hi]), (38, pt g2 2), (39, .agg #[.int .u64 a0.b.Lo, .int .u64 a0.b.Hi]), (40, .agg #[.int .u64 (span_without a0.a a0.b).Lo, .int .u64 (span_without a0.a a0.b).Hi]), (41, pt g2 2), (42, .agg #[.int .u64 a0.b.Lo, .int .u64 a0.b.Hi]), (43, pt g2 0), (44, .agg #[.int .u64 a0.a.Lo, .int .u64 a0.a.Hi]), (2, pt g2 0), (4, pt g12 0), (5, pt g22 0)]) (fun _ => by kernel_rfl) (by kernel_rfl) [] (fun _ _ => True) (fun _ => trivial) (fun _ _ _ _ _ _ _ => trivial) [] [] (by kernel_rfl) (fun w' => Chg [] w156 w') (fun _ _ _ => True) (fun j x w hj h => absurd hj (by simp)) (by kernel_rfl) (by kernel_rfl) (by kernel_rfl) (by kernel_rfl) (Chg.drew w156) (fun _ _ _ h h' => h.step h' (fun t ht => .inl (cL_sub t ht))) (fun _ _ _ _ _ _ _ _ => trivial) (obsG_batch 1 0 8 (fun _ _ => by kernel_rfl) (by kernel_rfl) ⟨?_, (obsG_batch 1 2 6 (fun _ _ => by kernel_rfl) (by kernel_rfl) ⟨?_, ⟨?_, (obsG_batch 1 5 3 (fun _ _ => by kernel_rfl) (by kernel_rfl) ⟨?_, (obsG_batch 1 7 1 (fun _ _ => by kernel_rfl) (by kernel_rfl) ⟨?_, trivial⟩)⟩)⟩⟩)⟩) ?_
  ·
   intro u161 w162 hW163 _ hp164 hal165
   have hz168 := hW163.size
   have hC167 := hC158.pure hW163
   have hb169 := (((hb131.pure hc136).pure hc145).pure hc157).pure hW163
   refine WR.load (dst := some 37) (t := 25) (o := 0) hb169 (by kernel_rfl) (.agg #[.int .u64 a0.a.Lo, .int .u64 a0.a.Hi]) (by kernel_rfl) ?_
   refine WR.fin (by kernel_rfl) ?_
   exact fun _ ha => ⟨Chg.refl _ _, _, ha, ⟨⟨fun h => absurd h (by decide), alNone (by decide)⟩, rfl⟩⟩
  ·
   intro u170 w171 hW172 _ hp173 hal174
   have hz177 := hW172.size
   have hC176 := hC158.pure hW172
   have hb178 := (((hb131.pure hc136).pure hc145).pure hc157).pure hW172
   refine WR.load (dst := some 39) (t := 25) (o := 2) hb178 (by kernel_rfl) (.agg #[.int .u64 a0.b.Lo, .int .u64 a0.b.Hi]) (by kernel_rfl) ?_
   refine WR.fin (by kernel_rfl) ?_
   exact fun _ ha => ⟨Chg.refl _ _, _, ha, ⟨⟨fun h => absurd h (by decide), alNone (by decide)⟩, rfl⟩⟩
  ·
   intro u179 w180 hW181 _ hp182 hal183
   have hz186 := hW181.size
   have hC185 := hC158.pure hW181
   have hx187 : IU64 (span_without a0.a a0.b).Lo ∧ IU64 (span_without a0.a a0.b).Hi := span_without_ok a0.a a0.b ⟨(by omega), (by omega)⟩ ⟨(by omega), (by omega)⟩ 
   have hx188 : IU64 (span_without a0.a a0.b).Lo ∧ IU64 (span_without a0.a a0.b).Hi := span_without_ok a0.a a0.b ⟨(by omega), (by omega)⟩ ⟨(by omega), (by omega)⟩ 
   refine WR.call (dst := some 40) (by kernel_rfl) (span_without_any a0.a a0.b w180  ⟨(by omega), (by omega)⟩ ⟨(by omega), (by omega)⟩ ) ?_
   rintro _ w189 hc190 rfl
   have hz192 := hc190.size
   have hC191 := hC185.pure hc190
   refine WR.fin (by kernel_rfl) ?_
   exact fun _ ha => ⟨hc190, _, ha, ⟨⟨fun h => absurd h (by decide), alNone (by decide)⟩, rfl⟩⟩
  ·
   intro u193 w194 hW195 _ hp196 hal197
   have hz200 := hW195.size
   have hC199 := hC158.pure hW195
   have hb201 := (((hb131.pure hc136).pure hc145).pure hc157).pure hW195
   refine WR.load (dst := some 42) (t := 25) (o := 2) hb201 (by kernel_rfl) (.agg #[.int .u64 a0.b.Lo, .int .u64 a0.b.Hi]) (by kernel_rfl) ?_
   refine WR.fin (by kernel_rfl) ?_
   exact fun _ ha => ⟨Chg.refl _ _, _, ha, ⟨⟨fun h => absurd h (by decide), alNone (by decide)⟩, rfl⟩⟩
  ·
   intro u202 w203 hW204 _ hp205 hal206
   have hz209 := hW204.size
   have hC208 := hC158.pure hW204
   have hb210 := (((hb131.pure hc136).pure hc145).pure hc157).pure hW204
   refine WR.load (dst := some 44) (t := 25) (o := 0) hb210 (by kernel_rfl) (.agg #[.int .u64 a0.a.Lo, .int .u64 a0.a.Hi]) (by kernel_rfl) ?_
   refine WR.fin (by kernel_rfl) ?_
   exact fun _ ha => ⟨Chg.refl _ _, _, ha, ⟨⟨fun h => absurd h (by decide), alNone (by decide)⟩, rfl⟩⟩
  intro u211 w212 hW213 _ _ _
  have hz218 := hW213.size
  have hC217 := hC158.pure hW213
  have hx219 : IU64 (span_without a0.a a0.b).Lo ∧ IU64 (span_without a0.a a0.b).Hi := span_without_ok a0.a a0.b ⟨(by omega), (by omega)⟩ ⟨(by omega), (by omega)⟩ 
  refine WR.keep [4, 5, 40, 42, 44] (F' := [(4, pt g12 0), (5, pt g22 0), (40, .agg #[.int .u64 (span_without a0.a a0.b).Lo, .int .u64 (span_without a0.a a0.b).Hi]), (42, .agg #[.int .u64 a0.b.Lo, .int .u64 a0.b.Hi]), (44, .agg #[.int .u64 a0.a.Lo, .int .u64 a0.a.Hi])]) (by kernel_rfl) ?_
  obtain ⟨x220, hx221⟩ : ∃ x, span_without a0.b a0.a = x := ⟨_, rfl⟩
  have hs223 := letS hx221 hs155
  have hx222 : IU64 x220.Lo ∧ IU64 x220.Hi := by rw [← hx221]; exact span_without_ok a0.b a0.a ⟨(by omega), (by omega)⟩ ⟨(by omega), (by omega)⟩ 
  refine WR.call (dst := some 45) (by kernel_rfl) (retE (g := TSpan.v) hx221 (span_without_any a0.b a0.a w212  ⟨(by omega), (by omega)⟩ ⟨(by omega), (by omega)⟩ )) ?_
  rintro _ w224 hc225 rfl
  have hz227 := hc225.size
  have hC226 := hC217.pure hc225
  have hb231 := (((((hb15.pure hc27).pure hc136).pure hc145).pure hc157).pure hW213).pure hc225
  refine WR.store (t := 25) (o := 0) (v := .agg #[.int .u64 (span_without a0.a a0.b).Lo, .int .u64 (span_without a0.a a0.b).Hi]) hb231 (by kernel_rfl) #[.int .u64 (span_without a0.a a0.b).Lo, .int .u64 (span_without a0.a a0.b).Hi] (by kernel_rfl) ?_
  intro w228 hb229 hc230
  have hz233 := hc230.size
  have hC232 := hC226.step1 hc230 (by omega)
  have hb237 := (((((hb25.pure hc136).pure hc145).pure hc157).pure hW213).pure hc225).chg1 hc230 (by omega)
  refine WR.store (t := 25) (o := 0) (v := .agg #[.int .u64 x220.Lo, .int .u64 x220.Hi]) hb237 (by kernel_rfl) #[.int .u64 x220.Lo, .int .u64 x220.Hi] (by kernel_rfl) ?_
  intro w234 hb235 hc236
  have hz239 := hc236.size
  have hC238 := hC232.step1 hc236 (by omega)
  refine WR.fin (by kernel_rfl) ?_
  refine go hK160 ?_
  refine CW.ret ?_
  have hb240 := hb229.chg1 hc236 (by omega)
  exact retC [.agg #[.int .u64 (span_without a0.a a0.b).Lo, .int .u64 (span_without a0.a a0.b).Hi], .agg #[.int .u64 x220.Lo, .int .u64 x220.Hi]] _ rfl ⟨resCell hb240 rfl (by kernel_rfl), resCell hb235 rfl (by kernel_rfl), trivial⟩ (retP_ret (g := (fun r : (TSpan × TSpan) => (.tuple #[TSpan.v r.1, TSpan.v r.2] : Value))) hs223 rfl hC238)
 have hs241 := ifF ht128 hs126
 replace ht128 : a1 ≠ (18 : Int) := (bEqF ht128)
 refine CW.seq fun K242 hK242 => ?_
 refine CW.region ?_
 refine WR.batch 2 [(2, pt g2 0), (4, pt g12 0), (5, pt g22 0), (8, .int .u8 a1), (46, .bool (a1 == (19 : Int)))] (by kernel_rfl) ?_
 refine WR.fin (by kernel_rfl) ?_
 refine go hK242 ?_
 refine CW.cond ((a1 == (19 : Int))) (by kernel_rfl) (fun ht243 => ?_) (fun ht243 => ?_)
 ·
  have hs244 := ifT ht243 hs241
  replace ht243 : a1 = (19 : Int) := (bEqT ht243)
  refine CW.seq fun K245 hK245 => ?_
  refine CW.region ?_
  refine WR.batch 2 [(2, pt g2 0), (4, pt g12 0), (5, pt g22 0), (49, pt g2 1)] (by kernel_rfl) ?_
  have hb246 := (hb5.pure hc17).pure hc27
  refine WR.load (dst := some 50) (t := 23) (o := 1) hb246 (by kernel_rfl) (.int .u64 a0.a.Hi) (by kernel_rfl) ?_
  refine WR.batch 2 [(2, pt g2 0), (4, pt g12 0), (5, pt g22 0), (50, .int .u64 a0.a.Hi), (52, pt g2 2)] (by kernel_rfl) ?_
  refine WR.load (dst := some 53) (t := 23) (o := 2) hb246 (by kernel_rfl) (.int .u64 a0.b.Lo) (by kernel_rfl) ?_
  refine WR.batch 1 [(2, pt g2 0), (4, pt g12 0), (5, pt g22 0), (54, .bool (decide (a0.a.Hi > a0.b.Lo)))] (by kernel_rfl) ?_
  rcases hx248 : span_must (decide (a0.a.Hi > a0.b.Lo)) with _ | x247
  ·
   have hs251 := optN hx248 hs244
   refine WR.callX (dst := some 55) (by kernel_rfl) (retP_no (g := (fun _ : Unit => (.tuple #[] : Value))) hx248 (span_must_any (decide (a0.a.Hi > a0.b.Lo)) w23  )) ?_
   intro w249 hc250
   have hz253 := hc250.size
   have hC252 := hC29.pure hc250
   exact panicV (P := Try.prog) (fn := Try.f93) (retP_pan hs251 hC252)
  have hs254 := optS hx248 hs244
  refine WR.call (dst := some 55) (by kernel_rfl) (retP_yes (g := (fun _ : Unit => (.tuple #[] : Value))) hx248 (span_must_any (decide (a0.a.Hi > a0.b.Lo)) w23  )) ?_
  rintro _ w255 hc256 rfl
  have hz258 := hc256.size
  have hC257 := hC29.pure hc256
  refine WR.fin (by kernel_rfl) ?_
  refine go hK245 ?_
  refine CW.seq fun K259 hK259 => ?_
  refine CW.keep [2, 4, 5] (F' := [(2, pt g2 0), (4, pt g12 0), (5, pt g22 0)]) (by kernel_rfl) ?_
  have hb260 := (hb15.pure hc27).pure hc256
  refine CW.regionG 25 [some (pt g2 0), some (pt g2 0), some (.int .u64 a0.a.Lo), some (pt g2 2), some (pt g2 2), some (.int .u64 a0.b.Lo), some (.int .u64 (IntKind.u64.wrap (a0.b.Lo + (1 : Int)))), some (.int .u64 (gMax a0.a.Lo (IntKind.u64.wrap (a0.b.Lo + (1 : Int))))), some (pt g2 0), some (pt g2 1), some (.int .u64 a0.a.Hi), some (.agg #[.int .u64 (gMax a0.a.Lo (IntKind.u64.wrap (a0.b.Lo + (1 : Int)))), .int .u64 a0.a.Hi]), some (pt g2 2), some (pt g2 2), some (.int .u64 a0.b.Lo), some (pt g2 2), some (pt g2 3), some (.int .u64 a0.b.Hi), some (pt g2 0), some (pt g2 1), some (.int .u64 a0.a.Hi), some (.int .u64 (IntKind.u64.wrap (a0.a.Hi - (1 : Int)))), some (.int .u64 (gMin a0.b.Hi (IntKind.u64.wrap (a0.a.Hi - (1 : Int))))), some (.agg #[.int .u64 a0.b.Lo, .int .u64 (gMin a0.b.Hi (IntKind.u64.wrap (a0.a.Hi - (1 : Int))))]), none] (fun u => [(56, pt g2 0), (57, pt g2 0), (58, .int .u64 a0.a.Lo), (59, pt g2 2), (60, pt g2 2), (61, .int .u64 a0.b.Lo), (62, .int .u64 (IntKind.u64.wrap (a0.b.Lo + (1 : Int)))), (63, .int .u64 (gMax a0.a.Lo (IntKind.u64.wrap (a0.b.Lo + (1 : Int))))), (64, pt g2 0), (65, pt g2 1), (66, .int .u64 a0.a.Hi), (67, .agg #[.int .u64 (gMax a0.a.Lo (IntKind.u64.wrap (a0.b.Lo + (1 : Int)))), .int .u64 a0.a.Hi]), (68, pt g2 2), (69, pt g2 2), (70, .int .u64 a0.b.Lo), (71, pt g2 2), (72, pt g2 3), (73, .int .u64 a0.b.Hi), (74, pt g2 0), (75, pt g2 1), (76, .int .u64 a0.a.Hi), (77, .int .u64 (IntKind.u64.wrap (a0.a.Hi - (1 : Int)))), (78, .int .u64 (gMin a0.b.Hi (IntKind.u64.wrap (a0.a.Hi - (1 : Int))))), (79, .agg #[.int .u64 a0.b.Lo, .int .u64 (gMin a0.b.Hi (IntKind.u64.wrap (a0.a.Hi - (1 : Int))))]), (2, pt g2 0), (4, pt g12 0), (5, pt g22 0)]) (fun _ => by kernel_rfl) (by kernel_rfl) [(24, g12)] (fun i w' => match i with | 0 => True | 1 => True | 2 => True | 3 => True | 4 => True | 5 => True | 6 => True | 7 => True | 8 => True | 9 => True | 10 => True | 11 => True | 12 => True | 13 => True | 14 => True | 15 => True | 16 => True | 17 => True | 18 => True | 19 => True | 20 => True | 21 => True | 22 => True | 23 => True | 24 => Blk w' g12 #[.int .u64 0, .int .u64 0] 25 | _ => True) (fun j => match j with | 0 => trivial | 1 => trivial | 2 => trivial | 3 => trivial | 4 => trivial | 5 => trivial | 6 => trivial | 7 => trivial | 8 => trivial | 9 => trivial | 10 => trivial | 11 => trivial | 12 => trivial | 13 => trivial | 14 => trivial | 15 => trivial | 16 => trivial | 17 => trivial | 18 => trivial | 19 => trivial | 20 => trivial | 21 => trivial | 22 => trivial | 23 => trivial | 24 => hb260.pure (Chg.drew w255) | j + 25 => trivial) ?_ [] [] (by kernel_rfl) (fun w' => Chg [g12] w255 w') (fun i v w' => match i with | 0 => True | 1 => True | 2 => True | 3 => True | 4 => True | 5 => True | 6 => True | 7 => True | 8 => True | 9 => True | 10 => True | 11 => True | 12 => True | 13 => True | 14 => True | 15 => True | 16 => True | 17 => True | 18 => True | 19 => True | 20 => True | 21 => True | 22 => True | 23 => True | 24 => Blk w' g12 #[.int .u64 (gMax a0.a.Lo (IntKind.u64.wrap (a0.b.Lo + (1 : Int)))), .int .u64 a0.a.Hi] 25 | _ => True) (fun j x w hj h => absurd hj (by simp)) (by kernel_rfl) (by kernel_rfl) (by kernel_rfl) (by kernel_rfl) ((Chg.drew w255).weak (by simp)) (fun _ _ _ h h' => h.step h' (fun t ht => .inl (cL_sub t ht))) ?_ (obsG_batch 2 0 23 (fun _ _ => by kernel_rfl) (by kernel_rfl) ⟨?_, (obsG_batch 2 3 20 (fun _ _ => by kernel_rfl) (by kernel_rfl) ⟨?_, (obsG_batch 4 6 15 (fun _ _ => by kernel_rfl) (by kernel_rfl) ⟨?_, (obsG_batch 3 11 11 (fun _ _ => by kernel_rfl) (by kernel_rfl) ⟨?_, (obsG_batch 2 15 8 (fun _ _ => by kernel_rfl) (by kernel_rfl) ⟨?_, (obsG_batch 2 18 5 (fun _ _ => by kernel_rfl) (by kernel_rfl) ⟨?_, (obsG_batch 3 21 1 (fun _ _ => by kernel_rfl) (by kernel_rfl) ⟨?_, trivial⟩)⟩)⟩)⟩)⟩)⟩)⟩) ?_
  ·
   intro i j w1 w2 hij h hc
   match j, hij, h with
   | 0, hij, h => exact trivial
   | 1, hij, h => exact trivial
   | 2, hij, h => exact trivial
   | 3, hij, h => exact trivial
   | 4, hij, h => exact trivial
   | 5, hij, h => exact trivial
   | 6, hij, h => exact trivial
   | 7, hij, h => exact trivial
   | 8, hij, h => exact trivial
   | 9, hij, h => exact trivial
   | 10, hij, h => exact trivial
   | 11, hij, h => exact trivial
   | 12, hij, h => exact trivial
   | 13, hij, h => exact trivial
   | 14, hij, h => exact trivial
   | 15, hij, h => exact trivial
   | 16, hij, h => exact trivial
   | 17, hij, h => exact trivial
   | 18, hij, h => exact trivial
   | 19, hij, h => exact trivial
   | 20, hij, h => exact trivial
   | 21, hij, h => exact trivial
   | 22, hij, h => exact trivial
   | 23, hij, h => exact trivial
   | 24, hij, h => exact h.chg hc (cL_not (by intro p hp e; simp only [List.mem_cons, List.not_mem_nil, or_false] at hp; rcases hp with rfl <;> (simp only at e ⊢; omega)))
   | n + 25, _, _ => trivial
  ·
   intro i j v w1 w2 hij h hc
   match j, hij, h with
   | 0, _, _ => trivial
   | 1, _, _ => trivial
   | 2, _, _ => trivial
   | 3, _, _ => trivial
   | 4, _, _ => trivial
   | 5, _, _ => trivial
   | 6, _, _ => trivial
   | 7, _, _ => trivial
   | 8, _, _ => trivial
   | 9, _, _ => trivial
   | 10, _, _ => trivial
   | 11, _, _ => trivial
   | 12, _, _ => trivial
   | 13, _, _ => trivial
   | 14, _, _ => trivial
   | 15, _, _ => trivial
   | 16, _, _ => trivial
   | 17, _, _ => trivial
   | 18, _, _ => trivial
   | 19, _, _ => trivial
   | 20, _, _ => trivial
   | 21, _, _ => trivial
   | 22, _, _ => trivial
   | 23, _, _ => trivial
   | 24, hij, h => exact h.chg hc (cL_not (by intro p hp e; simp only [List.mem_cons, List.not_mem_nil, or_false] at hp; rcases hp with rfl <;> (simp only at e ⊢; omega)))
   | n + 25, _, _ => trivial
  ·
   intro u261 w262 hW263 hPr266 hp264 hal265
   have hz268 := hW263.size
   have hC267 := hC257.step1 hW263 (by omega)
   have hb269 : Blk w262 g12 #[.int .u64 0, .int .u64 0] 25 := hPr266 24 (.inr (.one (by kernel_rfl)))
   have hb270 := (hb246.pure hc256).chg1 hW263 (by omega)
   refine WR.load (dst := some 58) (t := 23) (o := 0) hb270 (by kernel_rfl) (.int .u64 a0.a.Lo) (by kernel_rfl) ?_
   refine WR.fin (by kernel_rfl) ?_
   exact fun _ ha => ⟨Chg.refl _ _, _, ha, ⟨⟨fun h => absurd h (by decide), alNone (by decide)⟩, rfl⟩⟩
  ·
   intro u271 w272 hW273 hPr276 hp274 hal275
   have hz278 := hW273.size
   have hC277 := hC257.step1 hW273 (by omega)
   have hb279 : Blk w272 g12 #[.int .u64 0, .int .u64 0] 25 := hPr276 24 (.inr (.one (by kernel_rfl)))
   have hb280 := (hb246.pure hc256).chg1 hW273 (by omega)
   refine WR.load (dst := some 61) (t := 23) (o := 2) hb280 (by kernel_rfl) (.int .u64 a0.b.Lo) (by kernel_rfl) ?_
   refine WR.fin (by kernel_rfl) ?_
   exact fun _ ha => ⟨Chg.refl _ _, _, ha, ⟨⟨fun h => absurd h (by decide), alNone (by decide)⟩, rfl⟩⟩
  ·
   intro u281 w282 hW283 hPr286 hp284 hal285
   have hz288 := hW283.size
   have hC287 := hC257.step1 hW283 (by omega)
   have hb289 : Blk w282 g12 #[.int .u64 0, .int .u64 0] 25 := hPr286 24 (.inr (.one (by kernel_rfl)))
   have hb290 := (hb246.pure hc256).chg1 hW283 (by omega)
   refine WR.load (dst := some 66) (t := 23) (o := 1) hb290 (by kernel_rfl) (.int .u64 a0.a.Hi) (by kernel_rfl) ?_
   refine WR.fin (by kernel_rfl) ?_
   exact fun _ ha => ⟨Chg.refl _ _, _, ha, ⟨⟨fun h => absurd h (by decide), alNone (by decide)⟩, rfl⟩⟩
  ·
   intro u291 w292 hW293 _ hp294 hal295
   have hz298 := hW293.size
   have hC297 := hC257.step1 hW293 (by omega)
   have hb299 := (hb246.pure hc256).chg1 hW293 (by omega)
   refine WR.load (dst := some 70) (t := 23) (o := 2) hb299 (by kernel_rfl) (.int .u64 a0.b.Lo) (by kernel_rfl) ?_
   refine WR.fin (by kernel_rfl) ?_
   exact fun _ ha => ⟨Chg.refl _ _, _, ha, ⟨⟨fun h => absurd h (by decide), alNone (by decide)⟩, rfl⟩⟩
  ·
   intro u300 w301 hW302 _ hp303 hal304
   have hz307 := hW302.size
   have hC306 := hC257.step1 hW302 (by omega)
   have hb308 := (hb246.pure hc256).chg1 hW302 (by omega)
   refine WR.load (dst := some 73) (t := 23) (o := 3) hb308 (by kernel_rfl) (.int .u64 a0.b.Hi) (by kernel_rfl) ?_
   refine WR.fin (by kernel_rfl) ?_
   exact fun _ ha => ⟨Chg.refl _ _, _, ha, ⟨⟨fun h => absurd h (by decide), alNone (by decide)⟩, rfl⟩⟩
  ·
   intro u309 w310 hW311 _ hp312 hal313
   have hz316 := hW311.size
   have hC315 := hC257.step1 hW311 (by omega)
   have hb317 := (hb246.pure hc256).chg1 hW311 (by omega)
   refine WR.load (dst := some 76) (t := 23) (o := 1) hb317 (by kernel_rfl) (.int .u64 a0.a.Hi) (by kernel_rfl) ?_
   refine WR.fin (by kernel_rfl) ?_
   exact fun _ ha => ⟨Chg.refl _ _, _, ha, ⟨⟨fun h => absurd h (by decide), alNone (by decide)⟩, rfl⟩⟩
  ·
   intro u318 w319 hW320 hPr323 hp321 hal322
   have hz325 := hW320.size
   have hC324 := hC257.step1 hW320 (by omega)
   have hb326 : Blk w319 g12 #[.int .u64 0, .int .u64 0] 25 := hPr323 24 (.inl rfl)
   refine WR.store (t := 25) (o := 0) (v := .agg #[.int .u64 (gMax a0.a.Lo (IntKind.u64.wrap (a0.b.Lo + (1 : Int)))), .int .u64 a0.a.Hi]) hb326 (by kernel_rfl) #[.int .u64 (gMax a0.a.Lo (IntKind.u64.wrap (a0.b.Lo + (1 : Int)))), .int .u64 a0.a.Hi] (by kernel_rfl) ?_
   intro w327 hb328 hc329
   have hz331 := hc329.size
   have hC330 := hC324.step1 hc329 (by omega)
   refine WR.fin (by kernel_rfl) ?_
   exact fun _ ha => ⟨hc329, undef, ha, ⟨⟨fun h => absurd h (by decide), alNone (by decide)⟩, hb328⟩⟩
  intro u332 w333 hW334 hr335 _ _
  have hz339 := hW334.size
  have hC338 := hC257.step1 hW334 (by omega)
  have hp340 : Blk w333 g12 #[.int .u64 (gMax a0.a.Lo (IntKind.u64.wrap (a0.b.Lo + (1 : Int)))), .int .u64 a0.a.Hi] 25 := hr335 24 (by omega) (by kernel_rfl)
  have hx341 : IU64 (span_without a0.a a0.b).Lo ∧ IU64 (span_without a0.a a0.b).Hi := span_without_ok a0.a a0.b ⟨(by omega), (by omega)⟩ ⟨(by omega), (by omega)⟩ 
  refine WR.keep [4, 5, 79] (F' := [(4, pt g12 0), (5, pt g22 0), (79, .agg #[.int .u64 a0.b.Lo, .int .u64 (gMin a0.b.Hi (IntKind.u64.wrap (a0.a.Hi - (1 : Int))))])]) (by kernel_rfl) ?_
  have hb345 := (hb25.pure hc256).chg1 hW334 (by omega)
  refine WR.store (t := 25) (o := 0) (v := .agg #[.int .u64 a0.b.Lo, .int .u64 (gMin a0.b.Hi (IntKind.u64.wrap (a0.a.Hi - (1 : Int))))]) hb345 (by kernel_rfl) #[.int .u64 a0.b.Lo, .int .u64 (gMin a0.b.Hi (IntKind.u64.wrap (a0.a.Hi - (1 : Int))))] (by kernel_rfl) ?_
  intro w342 hb343 hc344
  have hz347 := hc344.size
  have hC346 := hC338.step1 hc344 (by omega)
  refine WR.fin (by kernel_rfl) ?_
  refine go hK259 ?_
  refine CW.ret ?_
  have hb348 := hp340.chg1 hc344 (by omega)
  exact retC [.agg #[.int .u64 (gMax a0.a.Lo (IntKind.u64.wrap (a0.b.Lo + (1 : Int)))), .int .u64 a0.a.Hi], .agg #[.int .u64 a0.b.Lo, .int .u64 (gMin a0.b.Hi (IntKind.u64.wrap (a0.a.Hi - (1 : Int))))]] _ rfl ⟨resCell hb348 rfl (by kernel_rfl), resCell hb343 rfl (by kernel_rfl), trivial⟩ (retP_ret (g := (fun r : (TSpan × TSpan) => (.tuple #[TSpan.v r.1, TSpan.v r.2] : Value))) hs254 rfl hC346)
 have hs349 := ifF ht243 hs241
 replace ht243 : a1 ≠ (19 : Int) := (bEqF ht243)
 refine CW.seq fun K350 hK350 => ?_
 refine CW.region ?_
 refine WR.batch 2 [(2, pt g2 0), (4, pt g12 0), (5, pt g22 0), (8, .int .u8 a1), (80, .bool (a1 == (20 : Int)))] (by kernel_rfl) ?_
 refine WR.fin (by kernel_rfl) ?_
 refine go hK350 ?_
 refine CW.cond ((a1 == (20 : Int))) (by kernel_rfl) (fun ht351 => ?_) (fun ht351 => ?_)
 ·
  have hs352 := ifT ht351 hs349
  replace ht351 : a1 = (20 : Int) := (bEqT ht351)
  refine CW.seq fun K353 hK353 => ?_
  refine CW.region ?_
  refine WR.batch 2 [(2, pt g2 0), (4, pt g12 0), (5, pt g22 0), (83, pt g2 1)] (by kernel_rfl) ?_
  have hb354 := (hb5.pure hc17).pure hc27
  refine WR.load (dst := some 84) (t := 23) (o := 1) hb354 (by kernel_rfl) (.int .u64 a0.a.Hi) (by kernel_rfl) ?_
  refine WR.batch 2 [(2, pt g2 0), (4, pt g12 0), (5, pt g22 0), (84, .int .u64 a0.a.Hi), (86, pt g2 2)] (by kernel_rfl) ?_
  refine WR.load (dst := some 87) (t := 23) (o := 2) hb354 (by kernel_rfl) (.int .u64 a0.b.Lo) (by kernel_rfl) ?_
  refine WR.batch 1 [(2, pt g2 0), (4, pt g12 0), (5, pt g22 0), (88, .bool (decide (a0.a.Hi ≥ a0.b.Lo)))] (by kernel_rfl) ?_
  rcases hx356 : span_must (decide (a0.a.Hi ≥ a0.b.Lo)) with _ | x355
  ·
   have hs359 := optN hx356 hs352
   refine WR.callX (dst := some 89) (by kernel_rfl) (retP_no (g := (fun _ : Unit => (.tuple #[] : Value))) hx356 (span_must_any (decide (a0.a.Hi ≥ a0.b.Lo)) w23  )) ?_
   intro w357 hc358
   have hz361 := hc358.size
   have hC360 := hC29.pure hc358
   exact panicV (P := Try.prog) (fn := Try.f93) (retP_pan hs359 hC360)
  have hs362 := optS hx356 hs352
  refine WR.call (dst := some 89) (by kernel_rfl) (retP_yes (g := (fun _ : Unit => (.tuple #[] : Value))) hx356 (span_must_any (decide (a0.a.Hi ≥ a0.b.Lo)) w23  )) ?_
  rintro _ w363 hc364 rfl
  have hz366 := hc364.size
  have hC365 := hC29.pure hc364
  refine WR.fin (by kernel_rfl) ?_
  refine go hK353 ?_
  refine CW.seq fun K367 hK367 => ?_
  refine CW.keep [2, 4, 5] (F' := [(2, pt g2 0), (4, pt g12 0), (5, pt g22 0)]) (by kernel_rfl) ?_
  have hb368 := (hb15.pure hc27).pure hc364
  refine CW.regionG 23 [some (pt g2 0), some (pt g2 0), some (.int .u64 a0.a.Lo), some (pt g2 2), some (pt g2 2), some (.int .u64 a0.b.Lo), some (.int .u64 (gMax a0.a.Lo a0.b.Lo)), some (pt g2 0), some (pt g2 1), some (.int .u64 a0.a.Hi), some (.agg #[.int .u64 (gMax a0.a.Lo a0.b.Lo), .int .u64 a0.a.Hi]), some (pt g2 2), some (pt g2 2), some (.int .u64 a0.b.Lo), some (pt g2 2), some (pt g2 3), some (.int .u64 a0.b.Hi), some (pt g2 0), some (pt g2 1), some (.int .u64 a0.a.Hi), some (.int .u64 (gMin a0.b.Hi a0.a.Hi)), some (.agg #[.int .u64 a0.b.Lo, .int .u64 (gMin a0.b.Hi a0.a.Hi)]), none] (fun u => [(90, pt g2 0), (91, pt g2 0), (92, .int .u64 a0.a.Lo), (93, pt g2 2), (94, pt g2 2), (95, .int .u64 a0.b.Lo), (96, .int .u64 (gMax a0.a.Lo a0.b.Lo)), (97, pt g2 0), (98, pt g2 1), (99, .int .u64 a0.a.Hi), (100, .agg #[.int .u64 (gMax a0.a.Lo a0.b.Lo), .int .u64 a0.a.Hi]), (101, pt g2 2), (102, pt g2 2), (103, .int .u64 a0.b.Lo), (104, pt g2 2), (105, pt g2 3), (106, .int .u64 a0.b.Hi), (107, pt g2 0), (108, pt g2 1), (109, .int .u64 a0.a.Hi), (110, .int .u64 (gMin a0.b.Hi a0.a.Hi)), (111, .agg #[.int .u64 a0.b.Lo, .int .u64 (gMin a0.b.Hi a0.a.Hi)]), (2, pt g2 0), (4, pt g12 0), (5, pt g22 0)]) (fun _ => by kernel_rfl) (by kernel_rfl) [(22, g12)] (fun i w' => match i with | 0 => True | 1 => True | 2 => True | 3 => True | 4 => True | 5 => True | 6 => True | 7 => True | 8 => True | 9 => True | 10 => True | 11 => True | 12 => True | 13 => True | 14 => True | 15 => True | 16 => True | 17 => True | 18 => True | 19 => True | 20 => True | 21 => True | 22 => Blk w' g12 #[.int .u64 0, .int .u64 0] 25 | _ => True) (fun j => match j with | 0 => trivial | 1 => trivial | 2 => trivial | 3 => trivial | 4 => trivial | 5 => trivial | 6 => trivial | 7 => trivial | 8 => trivial | 9 => trivial | 10 => trivial | 11 => trivial | 12 => trivial | 13 => trivial | 14 => trivial | 15 => trivial | 16 => trivial | 17 => trivial | 18 => trivial | 19 => trivial | 20 => trivial | 21 => trivial | 22 => hb368.pure (Chg.drew w363) | j + 23 => trivial) ?_ [] [] (by kernel_rfl) (fun w' => Chg [g12] w363 w') (fun i v w' => match i with | 0 => True | 1 => True | 2 => True | 3 => True | 4 => True | 5 => True | 6 => True | 7 => True | 8 => True | 9 => True | 10 => True | 11 => True | 12 => True | 13 => True | 14 => True | 15 => True | 16 => True | 17 => True | 18 => True | 19 => True | 20 => True | 21 => True | 22 => Blk w' g12 #[.int .u64 (gMax a0.a.Lo a0.b.Lo), .int .u64 a0.a.Hi] 25 | _ => True) (fun j x w hj h => absurd hj (by simp)) (by kernel_rfl) (by kernel_rfl) (by kernel_rfl) (by kernel_rfl) ((Chg.drew w363).weak (by simp)) (fun _ _ _ h h' => h.step h' (fun t ht => .inl (cL_sub t ht))) ?_ (obsG_batch 2 0 21 (fun _ _ => by kernel_rfl) (by kernel_rfl) ⟨?_, (obsG_batch 2 3 18 (fun _ _ => by kernel_rfl) (by kernel_rfl) ⟨?_, (obsG_batch 3 6 14 (fun _ _ => by kernel_rfl) (by kernel_rfl) ⟨?_, (obsG_batch 3 10 10 (fun _ _ => by kernel_rfl) (by kernel_rfl) ⟨?_, (obsG_batch 2 14 7 (fun _ _ => by kernel_rfl) (by kernel_rfl) ⟨?_, (obsG_batch 2 17 4 (fun _ _ => by kernel_rfl) (by kernel_rfl) ⟨?_, (obsG_batch 2 20 1 (fun _ _ => by kernel_rfl) (by kernel_rfl) ⟨?_, trivial⟩)⟩)⟩)⟩)⟩)⟩)⟩) ?_
  ·
   intro i j w1 w2 hij h hc
   match j, hij, h with
   | 0, hij, h => exact trivial
   | 1, hij, h => exact trivial
   | 2, hij, h => exact trivial
   | 3, hij, h => exact trivial
   | 4, hij, h => exact trivial
   | 5, hij, h => exact trivial
   | 6, hij, h => exact trivial
   | 7, hij, h => exact trivial
   | 8, hij, h => exact trivial
   | 9, hij, h => exact trivial
   | 10, hij, h => exact trivial
   | 11, hij, h => exact trivial
   | 12, hij, h => exact trivial
   | 13, hij, h => exact trivial
   | 14, hij, h => exact trivial
   | 15, hij, h => exact trivial
   | 16, hij, h => exact trivial
   | 17, hij, h => exact trivial
   | 18, hij, h => exact trivial
   | 19, hij, h => exact trivial
   | 20, hij, h => exact trivial
   | 21, hij, h => exact trivial
   | 22, hij, h => exact h.chg hc (cL_not (by intro p hp e; simp only [List.mem_cons, List.not_mem_nil, or_false] at hp; rcases hp with rfl <;> (simp only at e ⊢; omega)))
   | n + 23, _, _ => trivial
  ·
   intro i j v w1 w2 hij h hc
   match j, hij, h with
   | 0, _, _ => trivial
   | 1, _, _ => trivial
   | 2, _, _ => trivial
   | 3, _, _ => trivial
   | 4, _, _ => trivial
   | 5, _, _ => trivial
   | 6, _, _ => trivial
   | 7, _, _ => trivial
   | 8, _, _ => trivial
   | 9, _, _ => trivial
   | 10, _, _ => trivial
   | 11, _, _ => trivial
   | 12, _, _ => trivial
   | 13, _, _ => trivial
   | 14, _, _ => trivial
   | 15, _, _ => trivial
   | 16, _, _ => trivial
   | 17, _, _ => trivial
   | 18, _, _ => trivial
   | 19, _, _ => trivial
   | 20, _, _ => trivial
   | 21, _, _ => trivial
   | 22, hij, h => exact h.chg hc (cL_not (by intro p hp e; simp only [List.mem_cons, List.not_mem_nil, or_false] at hp; rcases hp with rfl <;> (simp only at e ⊢; omega)))
   | n + 23, _, _ => trivial
  ·
   intro u369 w370 hW371 hPr374 hp372 hal373
   have hz376 := hW371.size
   have hC375 := hC365.step1 hW371 (by omega)
   have hb377 : Blk w370 g12 #[.int .u64 0, .int .u64 0] 25 := hPr374 22 (.inr (.one (by kernel_rfl)))
   have hb378 := (hb354.pure hc364).chg1 hW371 (by omega)
   refine WR.load (dst := some 92) (t := 23) (o := 0) hb378 (by kernel_rfl) (.int .u64 a0.a.Lo) (by kernel_rfl) ?_
   refine WR.fin (by kernel_rfl) ?_
   exact fun _ ha => ⟨Chg.refl _ _, _, ha, ⟨⟨fun h => absurd h (by decide), alNone (by decide)⟩, rfl⟩⟩
  ·
   intro u379 w380 hW381 hPr384 hp382 hal383
   have hz386 := hW381.size
   have hC385 := hC365.step1 hW381 (by omega)
   have hb387 : Blk w380 g12 #[.int .u64 0, .int .u64 0] 25 := hPr384 22 (.inr (.one (by kernel_rfl)))
   have hb388 := (hb354.pure hc364).chg1 hW381 (by omega)
   refine WR.load (dst := some 95) (t := 23) (o := 2) hb388 (by kernel_rfl) (.int .u64 a0.b.Lo) (by kernel_rfl) ?_
   refine WR.fin (by kernel_rfl) ?_
   exact fun _ ha => ⟨Chg.refl _ _, _, ha, ⟨⟨fun h => absurd h (by decide), alNone (by decide)⟩, rfl⟩⟩
  ·
   intro u389 w390 hW391 hPr394 hp392 hal393
   have hz396 := hW391.size
   have hC395 := hC365.step1 hW391 (by omega)
   have hb397 : Blk w390 g12 #[.int .u64 0, .int .u64 0] 25 := hPr394 22 (.inr (.one (by kernel_rfl)))
   have hb398 := (hb354.pure hc364).chg1 hW391 (by omega)
   refine WR.load (dst := some 99) (t := 23) (o := 1) hb398 (by kernel_rfl) (.int .u64 a0.a.Hi) (by kernel_rfl) ?_
   refine WR.fin (by kernel_rfl) ?_
   exact fun _ ha => ⟨Chg.refl _ _, _, ha, ⟨⟨fun h => absurd h (by decide), alNone (by decide)⟩, rfl⟩⟩
  ·
   intro u399 w400 hW401 _ hp402 hal403
   have hz406 := hW401.size
   have hC405 := hC365.step1 hW401 (by omega)
   have hb407 := (hb354.pure hc364).chg1 hW401 (by omega)
   refine WR.load (dst := some 103) (t := 23) (o := 2) hb407 (by kernel_rfl) (.int .u64 a0.b.Lo) (by kernel_rfl) ?_
   refine WR.fin (by kernel_rfl) ?_
   exact fun _ ha => ⟨Chg.refl _ _, _, ha, ⟨⟨fun h => absurd h (by decide), alNone (by decide)⟩, rfl⟩⟩
  ·
   intro u408 w409 hW410 _ hp411 hal412
   have hz415 := hW410.size
   have hC414 := hC365.step1 hW410 (by omega)
   have hb416 := (hb354.pure hc364).chg1 hW410 (by omega)
   refine WR.load (dst := some 106) (t := 23) (o := 3) hb416 (by kernel_rfl) (.int .u64 a0.b.Hi) (by kernel_rfl) ?_
   refine WR.fin (by kernel_rfl) ?_
   exact fun _ ha => ⟨Chg.refl _ _, _, ha, ⟨⟨fun h => absurd h (by decide), alNone (by decide)⟩, rfl⟩⟩
  ·
   intro u417 w418 hW419 _ hp420 hal421
   have hz424 := hW419.size
   have hC423 := hC365.step1 hW419 (by omega)
   have hb425 := (hb354.pure hc364).chg1 hW419 (by omega)
   refine WR.load (dst := some 109) (t := 23) (o := 1) hb425 (by kernel_rfl) (.int .u64 a0.a.Hi) (by kernel_rfl) ?_
   refine WR.fin (by kernel_rfl) ?_
   exact fun _ ha => ⟨Chg.refl _ _, _, ha, ⟨⟨fun h => absurd h (by decide), alNone (by decide)⟩, rfl⟩⟩
  ·
   intro u426 w427 hW428 hPr431 hp429 hal430
   have hz433 := hW428.size
   have hC432 := hC365.step1 hW428 (by omega)
   have hb434 : Blk w427 g12 #[.int .u64 0, .int .u64 0] 25 := hPr431 22 (.inl rfl)
   refine WR.store (t := 25) (o := 0) (v := .agg #[.int .u64 (gMax a0.a.Lo a0.b.Lo), .int .u64 a0.a.Hi]) hb434 (by kernel_rfl) #[.int .u64 (gMax a0.a.Lo a0.b.Lo), .int .u64 a0.a.Hi] (by kernel_rfl) ?_
   intro w435 hb436 hc437
   have hz439 := hc437.size
   have hC438 := hC432.step1 hc437 (by omega)
   refine WR.fin (by kernel_rfl) ?_
   exact fun _ ha => ⟨hc437, undef, ha, ⟨⟨fun h => absurd h (by decide), alNone (by decide)⟩, hb436⟩⟩
  intro u440 w441 hW442 hr443 _ _
  have hz447 := hW442.size
  have hC446 := hC365.step1 hW442 (by omega)
  have hp448 : Blk w441 g12 #[.int .u64 (gMax a0.a.Lo a0.b.Lo), .int .u64 a0.a.Hi] 25 := hr443 22 (by omega) (by kernel_rfl)
  have hx449 : IU64 (span_without a0.a a0.b).Lo ∧ IU64 (span_without a0.a a0.b).Hi := span_without_ok a0.a a0.b ⟨(by omega), (by omega)⟩ ⟨(by omega), (by omega)⟩ 
  refine WR.keep [4, 5, 111] (F' := [(4, pt g12 0), (5, pt g22 0), (111, .agg #[.int .u64 a0.b.Lo, .int .u64 (gMin a0.b.Hi a0.a.Hi)])]) (by kernel_rfl) ?_
  have hb453 := (hb25.pure hc364).chg1 hW442 (by omega)
  refine WR.store (t := 25) (o := 0) (v := .agg #[.int .u64 a0.b.Lo, .int .u64 (gMin a0.b.Hi a0.a.Hi)]) hb453 (by kernel_rfl) #[.int .u64 a0.b.Lo, .int .u64 (gMin a0.b.Hi a0.a.Hi)] (by kernel_rfl) ?_
  intro w450 hb451 hc452
  have hz455 := hc452.size
  have hC454 := hC446.step1 hc452 (by omega)
  refine WR.fin (by kernel_rfl) ?_
  refine go hK367 ?_
  refine CW.ret ?_
  have hb456 := hp448.chg1 hc452 (by omega)
  exact retC [.agg #[.int .u64 (gMax a0.a.Lo a0.b.Lo), .int .u64 a0.a.Hi], .agg #[.int .u64 a0.b.Lo, .int .u64 (gMin a0.b.Hi a0.a.Hi)]] _ rfl ⟨resCell hb456 rfl (by kernel_rfl), resCell hb451 rfl (by kernel_rfl), trivial⟩ (retP_ret (g := (fun r : (TSpan × TSpan) => (.tuple #[TSpan.v r.1, TSpan.v r.2] : Value))) hs362 rfl hC454)
 have hs457 := ifF ht351 hs349
 replace ht351 : a1 ≠ (20 : Int) := (bEqF ht351)
 refine CW.seq fun K458 hK458 => ?_
 refine CW.region ?_
 refine WR.batch 2 [(2, pt g2 0), (4, pt g12 0), (5, pt g22 0), (8, .int .u8 a1), (112, .bool (a1 == (21 : Int)))] (by kernel_rfl) ?_
 refine WR.fin (by kernel_rfl) ?_
 refine go hK458 ?_
 refine CW.cond ((a1 == (21 : Int))) (by kernel_rfl) (fun ht459 => ?_) (fun ht459 => ?_)
 ·
  have hs460 := ifT ht459 hs457
  replace ht459 : a1 = (21 : Int) := (bEqT ht459)
  refine CW.region ?_
  have hb461 := (hb5.pure hc17).pure hc27
  refine WR.load (dst := some 115) (t := 79) (o := 0) hb461 (by kernel_rfl) (.agg #[.int .u64 a0.a.Lo, .int .u64 a0.a.Hi, .int .u64 a0.b.Lo, .int .u64 a0.b.Hi, .bool a0.narrow, .int .u64 a0.most, .int .u64 a0.size]) (by kernel_rfl) ?_
  obtain ⟨x462, hx463⟩ : ∃ x, span_work_turned a0 = x := ⟨_, rfl⟩
  have hs465 := letS hx463 hs460
  have hx464 : IU64 x462.a.Lo ∧ IU64 x462.a.Hi ∧ IU64 x462.b.Lo ∧ IU64 x462.b.Hi ∧ IU64 x462.most ∧ IU64 x462.size := by rw [← hx463]; exact span_work_turned_ok a0 ⟨(by omega), (by omega), (by omega), (by omega), (by omega), (by omega)⟩ 
  refine WR.call (dst := some 116) (by kernel_rfl) (retE (g := Twork.v) hx463 (span_work_turned_any a0 w23  ⟨(by omega), (by omega), (by omega), (by omega), (by omega), (by omega)⟩ )) ?_
  rintro _ w466 hc467 rfl
  have hz469 := hc467.size
  have hC468 := hC29.pure hc467
  rcases hx471 : span_work_plain_19 x462 with _ | x470
  ·
   have hs475 := optN hx471 hs465
   refine WR.callX (dst := some 117) (by kernel_rfl) (retP_no (g := (fun r : (TSpan × TSpan) => (.tuple #[TSpan.v r.1, TSpan.v r.2] : Value))) hx471 (span_work_plain_19_any x462 w466  ⟨(by omega), (by omega), (by omega), (by omega), (by omega), (by omega)⟩ )) ?_
   intro w473 hc474
   have hz477 := hc474.size
   have hC476 := hC468.pure hc474
   exact panicV (P := Try.prog) (fn := Try.f93) (retP_pan hs475 hC476)
  have hs478 := optS hx471 hs465
  have hx472 : IU64 x470.1.Lo ∧ IU64 x470.1.Hi ∧ IU64 x470.2.Lo ∧ IU64 x470.2.Hi := by exact span_work_plain_19_ok x462 ⟨(by omega), (by omega), (by omega), (by omega), (by omega), (by omega)⟩  _ hx471
  refine WR.call (dst := some 117) (by kernel_rfl) (retP_yes (g := (fun r : (TSpan × TSpan) => (.tuple #[TSpan.v r.1, TSpan.v r.2] : Value))) hx471 (span_work_plain_19_any x462 w466  ⟨(by omega), (by omega), (by omega), (by omega), (by omega), (by omega)⟩ )) ?_
  rintro _ w479 hc480 rfl
  have hz482 := hc480.size
  have hC481 := hC468.pure hc480
  refine WR.batch 3 [(4, pt g12 0), (5, pt g22 0), (118, .agg #[.int .u64 x470.1.Lo, .int .u64 x470.1.Hi]), (119, .agg #[.int .u64 x470.2.Lo, .int .u64 x470.2.Hi])] (by kernel_rfl) ?_
  have hb486 := (hb25.pure hc467).pure hc480
  refine WR.store (t := 25) (o := 0) (v := .agg #[.int .u64 x470.1.Lo, .int .u64 x470.1.Hi]) hb486 (by kernel_rfl) #[.int .u64 x470.1.Lo, .int .u64 x470.1.Hi] (by kernel_rfl) ?_
  intro w483 hb484 hc485
  have hz488 := hc485.size
  have hC487 := hC481.step1 hc485 (by omega)
  have hb492 := (((hb15.pure hc27).pure hc467).pure hc480).chg1 hc485 (by omega)
  refine WR.store (t := 25) (o := 0) (v := .agg #[.int .u64 x470.2.Lo, .int .u64 x470.2.Hi]) hb492 (by kernel_rfl) #[.int .u64 x470.2.Lo, .int .u64 x470.2.Hi] (by kernel_rfl) ?_
  intro w489 hb490 hc491
  have hz494 := hc491.size
  have hC493 := hC487.step1 hc491 (by omega)
  refine WR.fin (by kernel_rfl) ?_
  refine go hK32 ?_
  refine CW.seq fun K495 hK495 => ?_
  refine CW.keep [4, 5] (F' := [(4, pt g12 0), (5, pt g22 0)]) (by kernel_rfl) ?_
  refine CW.regionG 3 [some (.agg #[.int .u64 x470.2.Lo, .int .u64 x470.2.Hi]), some (.agg #[.int .u64 x470.1.Lo, .int .u64 x470.1.Hi]), none] (fun u => [(128, .agg #[.int .u64 x470.2.Lo, .int .u64 x470.2.Hi]), (129, .agg #[.int .u64 x470.1.Lo, .int .u64 x470.1.Hi]), (4, pt g12 0), (5, pt g22 0)]) (fun _ => by kernel_rfl) (by kernel_rfl) [(2, g12)] (fun i w' => match i with | 0 => True | 1 => True | 2 => Blk w' g12 #[.int .u64 x470.2.Lo, .int .u64 x470.2.Hi] 25 | _ => True) (fun j => match j with | 0 => trivial | 1 => trivial | 2 => hb490.pure (Chg.drew w489) | j + 3 => trivial) ?_ [] [] (by kernel_rfl) (fun w' => Chg [g12] w489 w') (fun i v w' => match i with | 0 => True | 1 => True | 2 => Blk w' g12 #[.int .u64 x470.2.Lo, .int .u64 x470.2.Hi] 25 | _ => True) (fun j x w hj h => absurd hj (by simp)) (by kernel_rfl) (by kernel_rfl) (by kernel_rfl) (by kernel_rfl) ((Chg.drew w489).weak (by simp)) (fun _ _ _ h h' => h.step h' (fun t ht => .inl (cL_sub t ht))) ?_ ⟨?_, ⟨?_, ⟨?_, trivial⟩⟩⟩ ?_
  ·
   intro i j w1 w2 hij h hc
   match j, hij, h with
   | 0, hij, h => exact trivial
   | 1, hij, h => exact trivial
   | 2, hij, h => exact h.chg hc (cL_not (by intro p hp e; simp only [List.mem_cons, List.not_mem_nil, or_false] at hp; rcases hp with rfl <;> (simp only at e ⊢; omega)))
   | n + 3, _, _ => trivial
  ·
   intro i j v w1 w2 hij h hc
   match j, hij, h with
   | 0, _, _ => trivial
   | 1, _, _ => trivial
   | 2, hij, h => exact h.chg hc (cL_not (by intro p hp e; simp only [List.mem_cons, List.not_mem_nil, or_false] at hp; rcases hp with rfl <;> (simp only at e ⊢; omega)))
   | n + 3, _, _ => trivial
  ·
   intro u496 w497 hW498 hPr501 hp499 hal500
   have hz503 := hW498.size
   have hC502 := hC493.step1 hW498 (by omega)
   have hb504 : Blk w497 g12 #[.int .u64 x470.2.Lo, .int .u64 x470.2.Hi] 25 := hPr501 2 (.inr (.one (by kernel_rfl)))
   refine WR.load (dst := some 128) (t := 25) (o := 0) hb504 (by kernel_rfl) (.agg #[.int .u64 x470.2.Lo, .int .u64 x470.2.Hi]) (by kernel_rfl) ?_
   refine WR.fin (by kernel_rfl) ?_
   exact fun _ ha => ⟨Chg.refl _ _, _, ha, ⟨⟨fun h => absurd h (by decide), alNone (by decide)⟩, rfl⟩⟩
  ·
   intro u505 w506 hW507 _ hp508 hal509
   have hz512 := hW507.size
   have hC511 := hC493.step1 hW507 (by omega)
   have hb513 := (hb484.chg1 hc491 (by omega)).chg1 hW507 (by omega)
   refine WR.load (dst := some 129) (t := 25) (o := 0) hb513 (by kernel_rfl) (.agg #[.int .u64 x470.1.Lo, .int .u64 x470.1.Hi]) (by kernel_rfl) ?_
   refine WR.fin (by kernel_rfl) ?_
   exact fun _ ha => ⟨Chg.refl _ _, _, ha, ⟨⟨fun h => absurd h (by decide), alNone (by decide)⟩, rfl⟩⟩
  ·
   intro u514 w515 hW516 hPr519 hp517 hal518
   have hz521 := hW516.size
   have hC520 := hC493.step1 hW516 (by omega)
   have hb522 : Blk w515 g12 #[.int .u64 x470.2.Lo, .int .u64 x470.2.Hi] 25 := hPr519 2 (.inl rfl)
   refine WR.store (t := 25) (o := 0) (v := .agg #[.int .u64 x470.2.Lo, .int .u64 x470.2.Hi]) hb522 (by kernel_rfl) #[.int .u64 x470.2.Lo, .int .u64 x470.2.Hi] (by kernel_rfl) ?_
   intro w523 hb524 hc525
   have hz527 := hc525.size
   have hC526 := hC520.step1 hc525 (by omega)
   refine WR.fin (by kernel_rfl) ?_
   exact fun _ ha => ⟨hc525, undef, ha, ⟨⟨fun h => absurd h (by decide), alNone (by decide)⟩, hb524⟩⟩
  intro u528 w529 hW530 hr531 _ _
  have hz535 := hW530.size
  have hC534 := hC493.step1 hW530 (by omega)
  have hp536 : Blk w529 g12 #[.int .u64 x470.2.Lo, .int .u64 x470.2.Hi] 25 := hr531 2 (by omega) (by kernel_rfl)
  have hx537 : IU64 (span_without a0.a a0.b).Lo ∧ IU64 (span_without a0.a a0.b).Hi := span_without_ok a0.a a0.b ⟨(by omega), (by omega)⟩ ⟨(by omega), (by omega)⟩ 
  refine WR.keep [4, 5, 129] (F' := [(4, pt g12 0), (5, pt g22 0), (129, .agg #[.int .u64 x470.1.Lo, .int .u64 x470.1.Hi])]) (by kernel_rfl) ?_
  have hb541 := (hb484.chg1 hc491 (by omega)).chg1 hW530 (by omega)
  refine WR.store (t := 25) (o := 0) (v := .agg #[.int .u64 x470.1.Lo, .int .u64 x470.1.Hi]) hb541 (by kernel_rfl) #[.int .u64 x470.1.Lo, .int .u64 x470.1.Hi] (by kernel_rfl) ?_
  intro w538 hb539 hc540
  have hz543 := hc540.size
  have hC542 := hC534.step1 hc540 (by omega)
  refine WR.fin (by kernel_rfl) ?_
  refine go hK495 ?_
  refine CW.ret ?_
  have hb544 := hp536.chg1 hc540 (by omega)
  exact retC [.agg #[.int .u64 x470.2.Lo, .int .u64 x470.2.Hi], .agg #[.int .u64 x470.1.Lo, .int .u64 x470.1.Hi]] _ rfl ⟨resCell hb544 rfl (by kernel_rfl), resCell hb539 rfl (by kernel_rfl), trivial⟩ (retP_ret (g := (fun r : (TSpan × TSpan) => (.tuple #[TSpan.v r.1, TSpan.v r.2] : Value))) hs478 rfl hC542)
 have hs545 := ifF ht459 hs457
 replace ht459 : a1 ≠ (21 : Int) := (bEqF ht459)
 refine CW.seq fun K546 hK546 => ?_
 refine CW.region ?_
 refine WR.batch 2 [(2, pt g2 0), (4, pt g12 0), (5, pt g22 0), (120, .bool (a1 == (22 : Int)))] (by kernel_rfl) ?_
 refine WR.fin (by kernel_rfl) ?_
 refine go hK546 ?_
 refine CW.cond ((a1 == (22 : Int))) (by kernel_rfl) (fun ht547 => ?_) (fun ht547 => ?_)
 ·
  have hs548 := ifT ht547 hs545
  replace ht547 : a1 = (22 : Int) := (bEqT ht547)
  refine CW.region ?_
  have hb549 := (hb5.pure hc17).pure hc27
  refine WR.load (dst := some 123) (t := 79) (o := 0) hb549 (by kernel_rfl) (.agg #[.int .u64 a0.a.Lo, .int .u64 a0.a.Hi, .int .u64 a0.b.Lo, .int .u64 a0.b.Hi, .bool a0.narrow, .int .u64 a0.most, .int .u64 a0.size]) (by kernel_rfl) ?_
  obtain ⟨x550, hx551⟩ : ∃ x, span_work_turned a0 = x := ⟨_, rfl⟩
  have hs553 := letS hx551 hs548
  have hx552 : IU64 x550.a.Lo ∧ IU64 x550.a.Hi ∧ IU64 x550.b.Lo ∧ IU64 x550.b.Hi ∧ IU64 x550.most ∧ IU64 x550.size := by rw [← hx551]; exact span_work_turned_ok a0 ⟨(by omega), (by omega), (by omega), (by omega), (by omega), (by omega)⟩ 
  refine WR.call (dst := some 124) (by kernel_rfl) (retE (g := Twork.v) hx551 (span_work_turned_any a0 w23  ⟨(by omega), (by omega), (by omega), (by omega), (by omega), (by omega)⟩ )) ?_
  rintro _ w554 hc555 rfl
  have hz557 := hc555.size
  have hC556 := hC29.pure hc555
  rcases hx559 : span_work_plain_20 x550 with _ | x558
  ·
   have hs563 := optN hx559 hs553
   refine WR.callX (dst := some 125) (by kernel_rfl) (retP_no (g := (fun r : (TSpan × TSpan) => (.tuple #[TSpan.v r.1, TSpan.v r.2] : Value))) hx559 (span_work_plain_20_any x550 w554  ⟨(by omega), (by omega), (by omega), (by omega), (by omega), (by omega)⟩ )) ?_
   intro w561 hc562
   have hz565 := hc562.size
   have hC564 := hC556.pure hc562
   exact panicV (P := Try.prog) (fn := Try.f93) (retP_pan hs563 hC564)
  have hs566 := optS hx559 hs553
  have hx560 : IU64 x558.1.Lo ∧ IU64 x558.1.Hi ∧ IU64 x558.2.Lo ∧ IU64 x558.2.Hi := by exact span_work_plain_20_ok x550 ⟨(by omega), (by omega), (by omega), (by omega), (by omega), (by omega)⟩  _ hx559
  refine WR.call (dst := some 125) (by kernel_rfl) (retP_yes (g := (fun r : (TSpan × TSpan) => (.tuple #[TSpan.v r.1, TSpan.v r.2] : Value))) hx559 (span_work_plain_20_any x550 w554  ⟨(by omega), (by omega), (by omega), (by omega), (by omega), (by omega)⟩ )) ?_
  rintro _ w567 hc568 rfl
  have hz570 := hc568.size
  have hC569 := hC556.pure hc568
  refine WR.batch 3 [(4, pt g12 0), (5, pt g22 0), (126, .agg #[.int .u64 x558.1.Lo, .int .u64 x558.1.Hi]), (127, .agg #[.int .u64 x558.2.Lo, .int .u64 x558.2.Hi])] (by kernel_rfl) ?_
  have hb574 := (hb25.pure hc555).pure hc568
  refine WR.store (t := 25) (o := 0) (v := .agg #[.int .u64 x558.1.Lo, .int .u64 x558.1.Hi]) hb574 (by kernel_rfl) #[.int .u64 x558.1.Lo, .int .u64 x558.1.Hi] (by kernel_rfl) ?_
  intro w571 hb572 hc573
  have hz576 := hc573.size
  have hC575 := hC569.step1 hc573 (by omega)
  have hb580 := (((hb15.pure hc27).pure hc555).pure hc568).chg1 hc573 (by omega)
  refine WR.store (t := 25) (o := 0) (v := .agg #[.int .u64 x558.2.Lo, .int .u64 x558.2.Hi]) hb580 (by kernel_rfl) #[.int .u64 x558.2.Lo, .int .u64 x558.2.Hi] (by kernel_rfl) ?_
  intro w577 hb578 hc579
  have hz582 := hc579.size
  have hC581 := hC575.step1 hc579 (by omega)
  refine WR.fin (by kernel_rfl) ?_
  refine go hK32 ?_
  refine CW.seq fun K583 hK583 => ?_
  refine CW.keep [4, 5] (F' := [(4, pt g12 0), (5, pt g22 0)]) (by kernel_rfl) ?_
  refine CW.regionG 3 [some (.agg #[.int .u64 x558.2.Lo, .int .u64 x558.2.Hi]), some (.agg #[.int .u64 x558.1.Lo, .int .u64 x558.1.Hi]), none] (fun u => [(128, .agg #[.int .u64 x558.2.Lo, .int .u64 x558.2.Hi]), (129, .agg #[.int .u64 x558.1.Lo, .int .u64 x558.1.Hi]), (4, pt g12 0), (5, pt g22 0)]) (fun _ => by kernel_rfl) (by kernel_rfl) [(2, g12)] (fun i w' => match i with | 0 => True | 1 => True | 2 => Blk w' g12 #[.int .u64 x558.2.Lo, .int .u64 x558.2.Hi] 25 | _ => True) (fun j => match j with | 0 => trivial | 1 => trivial | 2 => hb578.pure (Chg.drew w577) | j + 3 => trivial) ?_ [] [] (by kernel_rfl) (fun w' => Chg [g12] w577 w') (fun i v w' => match i with | 0 => True | 1 => True | 2 => Blk w' g12 #[.int .u64 x558.2.Lo, .int .u64 x558.2.Hi] 25 | _ => True) (fun j x w hj h => absurd hj (by simp)) (by kernel_rfl) (by kernel_rfl) (by kernel_rfl) (by kernel_rfl) ((Chg.drew w577).weak (by simp)) (fun _ _ _ h h' => h.step h' (fun t ht => .inl (cL_sub t ht))) ?_ ⟨?_, ⟨?_, ⟨?_, trivial⟩⟩⟩ ?_
  ·
   intro i j w1 w2 hij h hc
   match j, hij, h with
   | 0, hij, h => exact trivial
   | 1, hij, h => exact trivial
   | 2, hij, h => exact h.chg hc (cL_not (by intro p hp e; simp only [List.mem_cons, List.not_mem_nil, or_false] at hp; rcases hp with rfl <;> (simp only at e ⊢; omega)))
   | n + 3, _, _ => trivial
  ·
   intro i j v w1 w2 hij h hc
   match j, hij, h with
   | 0, _, _ => trivial
   | 1, _, _ => trivial
   | 2, hij, h => exact h.chg hc (cL_not (by intro p hp e; simp only [List.mem_cons, List.not_mem_nil, or_false] at hp; rcases hp with rfl <;> (simp only at e ⊢; omega)))
   | n + 3, _, _ => trivial
  ·
   intro u584 w585 hW586 hPr589 hp587 hal588
   have hz591 := hW586.size
   have hC590 := hC581.step1 hW586 (by omega)
   have hb592 : Blk w585 g12 #[.int .u64 x558.2.Lo, .int .u64 x558.2.Hi] 25 := hPr589 2 (.inr (.one (by kernel_rfl)))
   refine WR.load (dst := some 128) (t := 25) (o := 0) hb592 (by kernel_rfl) (.agg #[.int .u64 x558.2.Lo, .int .u64 x558.2.Hi]) (by kernel_rfl) ?_
   refine WR.fin (by kernel_rfl) ?_
   exact fun _ ha => ⟨Chg.refl _ _, _, ha, ⟨⟨fun h => absurd h (by decide), alNone (by decide)⟩, rfl⟩⟩
  ·
   intro u593 w594 hW595 _ hp596 hal597
   have hz600 := hW595.size
   have hC599 := hC581.step1 hW595 (by omega)
   have hb601 := (hb572.chg1 hc579 (by omega)).chg1 hW595 (by omega)
   refine WR.load (dst := some 129) (t := 25) (o := 0) hb601 (by kernel_rfl) (.agg #[.int .u64 x558.1.Lo, .int .u64 x558.1.Hi]) (by kernel_rfl) ?_
   refine WR.fin (by kernel_rfl) ?_
   exact fun _ ha => ⟨Chg.refl _ _, _, ha, ⟨⟨fun h => absurd h (by decide), alNone (by decide)⟩, rfl⟩⟩
  ·
   intro u602 w603 hW604 hPr607 hp605 hal606
   have hz609 := hW604.size
   have hC608 := hC581.step1 hW604 (by omega)
   have hb610 : Blk w603 g12 #[.int .u64 x558.2.Lo, .int .u64 x558.2.Hi] 25 := hPr607 2 (.inl rfl)
   refine WR.store (t := 25) (o := 0) (v := .agg #[.int .u64 x558.2.Lo, .int .u64 x558.2.Hi]) hb610 (by kernel_rfl) #[.int .u64 x558.2.Lo, .int .u64 x558.2.Hi] (by kernel_rfl) ?_
   intro w611 hb612 hc613
   have hz615 := hc613.size
   have hC614 := hC608.step1 hc613 (by omega)
   refine WR.fin (by kernel_rfl) ?_
   exact fun _ ha => ⟨hc613, undef, ha, ⟨⟨fun h => absurd h (by decide), alNone (by decide)⟩, hb612⟩⟩
  intro u616 w617 hW618 hr619 _ _
  have hz623 := hW618.size
  have hC622 := hC581.step1 hW618 (by omega)
  have hp624 : Blk w617 g12 #[.int .u64 x558.2.Lo, .int .u64 x558.2.Hi] 25 := hr619 2 (by omega) (by kernel_rfl)
  have hx625 : IU64 (span_without a0.a a0.b).Lo ∧ IU64 (span_without a0.a a0.b).Hi := span_without_ok a0.a a0.b ⟨(by omega), (by omega)⟩ ⟨(by omega), (by omega)⟩ 
  refine WR.keep [4, 5, 129] (F' := [(4, pt g12 0), (5, pt g22 0), (129, .agg #[.int .u64 x558.1.Lo, .int .u64 x558.1.Hi])]) (by kernel_rfl) ?_
  have hb629 := (hb572.chg1 hc579 (by omega)).chg1 hW618 (by omega)
  refine WR.store (t := 25) (o := 0) (v := .agg #[.int .u64 x558.1.Lo, .int .u64 x558.1.Hi]) hb629 (by kernel_rfl) #[.int .u64 x558.1.Lo, .int .u64 x558.1.Hi] (by kernel_rfl) ?_
  intro w626 hb627 hc628
  have hz631 := hc628.size
  have hC630 := hC622.step1 hc628 (by omega)
  refine WR.fin (by kernel_rfl) ?_
  refine go hK583 ?_
  refine CW.ret ?_
  have hb632 := hp624.chg1 hc628 (by omega)
  exact retC [.agg #[.int .u64 x558.2.Lo, .int .u64 x558.2.Hi], .agg #[.int .u64 x558.1.Lo, .int .u64 x558.1.Hi]] _ rfl ⟨resCell hb632 rfl (by kernel_rfl), resCell hb627 rfl (by kernel_rfl), trivial⟩ (retP_ret (g := (fun r : (TSpan × TSpan) => (.tuple #[TSpan.v r.1, TSpan.v r.2] : Value))) hs566 rfl hC630)
 have hs633 := ifF ht547 hs545
 replace ht547 : a1 ≠ (22 : Int) := (bEqF ht547)
 refine CW.skip ?_
 refine go hK32 ?_
 refine CW.seq fun K634 hK634 => ?_
 refine CW.keep [4, 5] (F' := [(4, pt g12 0), (5, pt g22 0)]) (by kernel_rfl) ?_
 have hb635 := hb15.pure hc27
 refine CW.regionG 3 [some (.agg #[.int .u64 0, .int .u64 0]), some (.agg #[.int .u64 0, .int .u64 0]), none] (fun u => [(128, .agg #[.int .u64 0, .int .u64 0]), (129, .agg #[.int .u64 0, .int .u64 0]), (4, pt g12 0), (5, pt g22 0)]) (fun _ => by kernel_rfl) (by kernel_rfl) [(2, g12)] (fun i w' => match i with | 0 => True | 1 => True | 2 => Blk w' g12 #[.int .u64 0, .int .u64 0] 25 | _ => True) (fun j => match j with | 0 => trivial | 1 => trivial | 2 => hb635.pure (Chg.drew w23) | j + 3 => trivial) ?_ [] [] (by kernel_rfl) (fun w' => Chg [g12] w23 w') (fun i v w' => match i with | 0 => True | 1 => True | 2 => Blk w' g12 #[.int .u64 0, .int .u64 0] 25 | _ => True) (fun j x w hj h => absurd hj (by simp)) (by kernel_rfl) (by kernel_rfl) (by kernel_rfl) (by kernel_rfl) ((Chg.drew w23).weak (by simp)) (fun _ _ _ h h' => h.step h' (fun t ht => .inl (cL_sub t ht))) ?_ ⟨?_, ⟨?_, ⟨?_, trivial⟩⟩⟩ ?_
 ·
  intro i j w1 w2 hij h hc
  match j, hij, h with
  | 0, hij, h => exact trivial
  | 1, hij, h => exact trivial
  | 2, hij, h => exact h.chg hc (cL_not (by intro p hp e; simp only [List.mem_cons, List.not_mem_nil, or_false] at hp; rcases hp with rfl <;> (simp only at e ⊢; omega)))
  | n + 3, _, _ => trivial
 ·
  intro i j v w1 w2 hij h hc
  match j, hij, h with
  | 0, _, _ => trivial
  | 1, _, _ => trivial
  | 2, hij, h => exact h.chg hc (cL_not (by intro p hp e; simp only [List.mem_cons, List.not_mem_nil, or_false] at hp; rcases hp with rfl <;> (simp only at e ⊢; omega)))
  | n + 3, _, _ => trivial
 ·
  intro u636 w637 hW638 hPr641 hp639 hal640
  have hz643 := hW638.size
  have hC642 := hC29.step1 hW638 (by omega)
  have hb644 : Blk w637 g12 #[.int .u64 0, .int .u64 0] 25 := hPr641 2 (.inr (.one (by kernel_rfl)))
  refine WR.load (dst := some 128) (t := 25) (o := 0) hb644 (by kernel_rfl) (.agg #[.int .u64 0, .int .u64 0]) (by kernel_rfl) ?_
  refine WR.fin (by kernel_rfl) ?_
  exact fun _ ha => ⟨Chg.refl _ _, _, ha, ⟨⟨fun h => absurd h (by decide), alNone (by decide)⟩, rfl⟩⟩
 ·
  intro u645 w646 hW647 _ hp648 hal649
  have hz652 := hW647.size
  have hC651 := hC29.step1 hW647 (by omega)
  have hb653 := hb25.chg1 hW647 (by omega)
  refine WR.load (dst := some 129) (t := 25) (o := 0) hb653 (by kernel_rfl) (.agg #[.int .u64 0, .int .u64 0]) (by kernel_rfl) ?_
  refine WR.fin (by kernel_rfl) ?_
  exact fun _ ha => ⟨Chg.refl _ _, _, ha, ⟨⟨fun h => absurd h (by decide), alNone (by decide)⟩, rfl⟩⟩
 ·
  intro u654 w655 hW656 hPr659 hp657 hal658
  have hz661 := hW656.size
  have hC660 := hC29.step1 hW656 (by omega)
  have hb662 : Blk w655 g12 #[.int .u64 0, .int .u64 0] 25 := hPr659 2 (.inl rfl)
  refine WR.store (t := 25) (o := 0) (v := .agg #[.int .u64 0, .int .u64 0]) hb662 (by kernel_rfl) #[.int .u64 0, .int .u64 0] (by kernel_rfl) ?_
  intro w663 hb664 hc665
  have hz667 := hc665.size
  have hC666 := hC660.step1 hc665 (by omega)
  refine WR.fin (by kernel_rfl) ?_
  exact fun _ ha => ⟨hc665, undef, ha, ⟨⟨fun h => absurd h (by decide), alNone (by decide)⟩, hb664⟩⟩
 intro u668 w669 hW670 hr671 _ _
 have hz675 := hW670.size
 have hC674 := hC29.step1 hW670 (by omega)
 have hp676 : Blk w669 g12 #[.int .u64 0, .int .u64 0] 25 := hr671 2 (by omega) (by kernel_rfl)
 have hx677 : IU64 (span_without a0.a a0.b).Lo ∧ IU64 (span_without a0.a a0.b).Hi := span_without_ok a0.a a0.b ⟨(by omega), (by omega)⟩ ⟨(by omega), (by omega)⟩ 
 refine WR.keep [4, 5, 129] (F' := [(4, pt g12 0), (5, pt g22 0), (129, .agg #[.int .u64 0, .int .u64 0])]) (by kernel_rfl) ?_
 have hb681 := hb25.chg1 hW670 (by omega)
 refine WR.store (t := 25) (o := 0) (v := .agg #[.int .u64 0, .int .u64 0]) hb681 (by kernel_rfl) #[.int .u64 0, .int .u64 0] (by kernel_rfl) ?_
 intro w678 hb679 hc680
 have hz683 := hc680.size
 have hC682 := hC674.step1 hc680 (by omega)
 refine WR.fin (by kernel_rfl) ?_
 refine go hK634 ?_
 refine CW.ret ?_
 have hb684 := hp676.chg1 hc680 (by omega)
 exact retC [.agg #[.int .u64 0, .int .u64 0], .agg #[.int .u64 0, .int .u64 0]] _ rfl ⟨resCell hb684 rfl (by kernel_rfl), resCell hb679 rfl (by kernel_rfl), trivial⟩ (retP_ret (g := (fun r : (TSpan × TSpan) => (.tuple #[TSpan.v r.1, TSpan.v r.2] : Value))) hs633 rfl hC682)

def span_work_signed (a0 : Twork) (a1 : Int)  : Option (TSpan × TSpan) := (letF (span_work_mixed a0 a0.a) fun x35 => (if (x35 || (span_work_mixed a0 a0.b)) then some (a0.a, a0.b) else (letF (span_work_below a0 a0.a.Lo) fun x112 => (letF (span_work_below a0 a0.b.Lo) fun x115 => (if (x112 == x115) then (optF (span_work_plain a0 (IntKind.u8.wrap ((IntKind.u8.wrap (a1 - (23 : Int))) + (19 : Int)))) (none) fun x126 => some (x126.1, x126.2)) else (letF (span_work_below a0 a0.b.Lo) fun x155 => (optF (span_must (((a1 == (23 : Int)) || (a1 == (24 : Int))) == x155)) (none) fun _ => some (a0.a, a0.b))))))))

theorem span_work_signed_ok (a0 : Twork) (a1 : Int)  (_h_a0 : IU64 a0.a.Lo ∧ IU64 a0.a.Hi ∧ IU64 a0.b.Lo ∧ IU64 a0.b.Hi ∧ IU64 a0.most ∧ IU64 a0.size) (_h_a1 : IU8 a1)  : ∀ y, (span_work_signed a0 a1) = some y → IU64 y.1.Lo ∧ IU64 y.1.Hi ∧ IU64 y.2.Lo ∧ IU64 y.2.Hi := by
 rw [span_work_signed.eq_1]
 refine letR (p := fun r : Option (TSpan × TSpan) => ∀ y, r = some y → IU64 y.1.Lo ∧ IU64 y.1.Hi ∧ IU64 y.2.Lo ∧ IU64 y.2.Hi) fun x35 _ => ?_
 refine iteR (p := fun r : Option (TSpan × TSpan) => ∀ y, r = some y → IU64 y.1.Lo ∧ IU64 y.1.Hi ∧ IU64 y.2.Lo ∧ IU64 y.2.Hi) (fun hi1001 => ?_) (fun hi1001 => ?_)
 ·
  replace hi1001 : (x35 = true) ∨ ((span_work_mixed a0 a0.b) = true) := (orMap (bOrT hi1001) (fun h => h) (fun h => h))
  intro y hy; cases hy; exact (by exact (show IU64 a0.a.Lo ∧ IU64 a0.a.Hi ∧ IU64 a0.b.Lo ∧ IU64 a0.b.Hi from ⟨(by omega), (by omega), (by omega), (by omega)⟩))
 replace hi1001 : (x35 = false) ∧ ((span_work_mixed a0 a0.b) = false) := ⟨(bOrF hi1001).1, (bOrF hi1001).2⟩
 refine letR (p := fun r : Option (TSpan × TSpan) => ∀ y, r = some y → IU64 y.1.Lo ∧ IU64 y.1.Hi ∧ IU64 y.2.Lo ∧ IU64 y.2.Hi) fun x112 _ => ?_
 refine letR (p := fun r : Option (TSpan × TSpan) => ∀ y, r = some y → IU64 y.1.Lo ∧ IU64 y.1.Hi ∧ IU64 y.2.Lo ∧ IU64 y.2.Hi) fun x115 _ => ?_
 refine iteR (p := fun r : Option (TSpan × TSpan) => ∀ y, r = some y → IU64 y.1.Lo ∧ IU64 y.1.Hi ∧ IU64 y.2.Lo ∧ IU64 y.2.Hi) (fun hi1002 => ?_) (fun hi1002 => ?_)
 ·
  replace hi1002 : x112 = x115 := (bEqT hi1002)
  refine optR (p := fun r : Option (TSpan × TSpan) => ∀ y, r = some y → IU64 y.1.Lo ∧ IU64 y.1.Hi ∧ IU64 y.2.Lo ∧ IU64 y.2.Hi) (fun _ => ?_) (fun x126 hx127 => ?_)
  ·
   intro y hy; cases hy
  have hx128 : IU64 x126.1.Lo ∧ IU64 x126.1.Hi ∧ IU64 x126.2.Lo ∧ IU64 x126.2.Hi := by exact span_work_plain_ok a0 (IntKind.u8.wrap ((IntKind.u8.wrap (a1 - (23 : Int))) + (19 : Int))) ⟨(by omega), (by omega), (by omega), (by omega), (by omega), (by omega)⟩ (wrapU8 _)  _ hx127
  intro y hy; cases hy; exact (by exact (show IU64 x126.1.Lo ∧ IU64 x126.1.Hi ∧ IU64 x126.2.Lo ∧ IU64 x126.2.Hi from ⟨(by omega), (by omega), (by omega), (by omega)⟩))
 replace hi1002 : x112 ≠ x115 := (bEqF hi1002)
 refine letR (p := fun r : Option (TSpan × TSpan) => ∀ y, r = some y → IU64 y.1.Lo ∧ IU64 y.1.Hi ∧ IU64 y.2.Lo ∧ IU64 y.2.Hi) fun x155 _ => ?_
 refine optR (p := fun r : Option (TSpan × TSpan) => ∀ y, r = some y → IU64 y.1.Lo ∧ IU64 y.1.Hi ∧ IU64 y.2.Lo ∧ IU64 y.2.Hi) (fun _ => ?_) (fun x162 _ => ?_)
 ·
  intro y hy; cases hy
 intro y hy; cases hy; exact (by exact (show IU64 a0.a.Lo ∧ IU64 a0.a.Hi ∧ IU64 a0.b.Lo ∧ IU64 a0.b.Hi from ⟨(by omega), (by omega), (by omega), (by omega)⟩))

set_option maxRecDepth 100000 in
set_option maxHeartbeats 4000000 in
theorem span_work_signed_any (a0 : Twork) (a1 : Int)   (w : World)  (_h_a0 : IU64 a0.a.Lo ∧ IU64 a0.a.Hi ∧ IU64 a0.b.Lo ∧ IU64 a0.b.Hi ∧ IU64 a0.most ∧ IU64 a0.size) (_h_a1 : IU8 a1)  : Calls Try.prog 92 #[.agg #[.int .u64 a0.a.Lo, .int .u64 a0.a.Hi, .int .u64 a0.b.Lo, .int .u64 a0.b.Hi, .bool a0.narrow, .int .u64 a0.most, .int .u64 a0.size], .int .u8 a1] w (RetP w (.iface 76 (.agg #[])) (((span_work_signed a0 a1)).map (fun r : (TSpan × TSpan) => (.tuple #[TSpan.v r.1, TSpan.v r.2] : Value)))) := by
 have hs := span_work_signed.eq_1 a0 a1
 refine calls_of_CW Try.func92 rfl (n := 55) Try.ntmps92 (by kernel_rfl) [0, 1] (F := [(0, .agg #[.int .u64 a0.a.Lo, .int .u64 a0.a.Hi, .int .u64 a0.b.Lo, .int .u64 a0.b.Hi, .bool a0.narrow, .int .u64 a0.most, .int .u64 a0.size]), (1, .int .u8 a1)]) (by kernel_rfl) ?_
 refine CW.seq fun K1 hK1 => ?_
 refine CW.region ?_
 refine WR.box (dst := some 2) (e := 79) (v := .agg #[.int .u64 a0.a.Lo, .int .u64 a0.a.Hi, .int .u64 a0.b.Lo, .int .u64 a0.b.Hi, .bool a0.narrow, .int .u64 a0.most, .int .u64 a0.size]) (by kernel_rfl) #[.int .u64 a0.a.Lo, .int .u64 a0.a.Hi, .int .u64 a0.b.Lo, .int .u64 a0.b.Hi, .bool a0.narrow, .int .u64 a0.most, .int .u64 a0.size] (by kernel_rfl) ?_
 intro g2 w3 hN4
 have hf6 : w.heap.size ≤ g2 := hN4.fresh
 have hfr8 := hN4.fresh
 have hc7 := hN4.chg
 have hz10 := hc7.size
 have hC9 := (Chg.refl [] w).pure hc7
 have hb5 := hN4.blk
 have hg11 := hb5.lt
 refine WR.alloc (dst := some 4) (e := 25) (by kernel_rfl) #[.int .u64 0, .int .u64 0] (by kernel_rfl) ?_
 intro g12 w13 hN14
 have hf16 : w.heap.size ≤ g12 := Nat.le_trans hC9.size hN14.fresh
 have hfr18 := hN14.fresh
 have hc17 := hN14.chg
 have hz20 := hc17.size
 have hC19 := hC9.pure hc17
 have hb15 := hN14.blk
 have hg21 := hb15.lt
 refine WR.alloc (dst := some 5) (e := 25) (by kernel_rfl) #[.int .u64 0, .int .u64 0] (by kernel_rfl) ?_
 intro g22 w23 hN24
 have hf26 : w.heap.size ≤ g22 := Nat.le_trans hC19.size hN24.fresh
 have hfr28 := hN24.fresh
 have hc27 := hN24.chg
 have hz30 := hc27.size
 have hC29 := hC19.pure hc27
 have hb25 := hN24.blk
 have hg31 := hb25.lt
 refine WR.fin (by kernel_rfl) ?_
 refine go hK1 ?_
 refine CW.seq fun K32 hK32 => ?_
 refine CW.seq fun K33 hK33 => ?_
 refine CW.region ?_
 have hb34 := (hb5.pure hc17).pure hc27
 refine WR.load (dst := some 6) (t := 79) (o := 0) hb34 (by kernel_rfl) (.agg #[.int .u64 a0.a.Lo, .int .u64 a0.a.Hi, .int .u64 a0.b.Lo, .int .u64 a0.b.Hi, .bool a0.narrow, .int .u64 a0.most, .int .u64 a0.size]) (by kernel_rfl) ?_
 refine WR.batch 1 [(1, .int .u8 a1), (2, pt g2 0), (4, pt g12 0), (5, pt g22 0), (6, .agg #[.int .u64 a0.a.Lo, .int .u64 a0.a.Hi, .int .u64 a0.b.Lo, .int .u64 a0.b.Hi, .bool a0.narrow, .int .u64 a0.most, .int .u64 a0.size]), (7, pt g2 0)] (by kernel_rfl) ?_
 refine WR.load (dst := some 8) (t := 25) (o := 0) hb34 (by kernel_rfl) (.agg #[.int .u64 a0.a.Lo, .int .u64 a0.a.Hi]) (by kernel_rfl) ?_
 obtain ⟨x35, hx36⟩ : ∃ x, span_work_mixed a0 a0.a = x := ⟨_, rfl⟩
 have hs37 := letS hx36 hs
 refine WR.call (dst := some 9) (by kernel_rfl) (retE (g := (fun r : Bool => (.bool r : Value))) hx36 (span_work_mixed_any a0 a0.a w23  ⟨(by omega), (by omega), (by omega), (by omega), (by omega), (by omega)⟩ ⟨(by omega), (by omega)⟩ )) ?_
 rintro _ w38 hc39 rfl
 have hz41 := hc39.size
 have hC40 := hC29.pure hc39
 refine WR.batch 1 [(1, .int .u8 a1), (2, pt g2 0), (4, pt g12 0), (5, pt g22 0), (10, .bool x35)] (by kernel_rfl) ?_
 refine WR.mergeW 10 [(1, .int .u8 a1), (2, pt g2 0), (4, pt g12 0), (5, pt g22 0), (15, .bool (x35 || (span_work_mixed a0 a0.b)))] (fun w' => Chg [] w38 w') (fun Q' => ?_) ?_
 ·
  cases hg42 : x35
  ·
   have hk44 := hg42
   intro hM43
   have hb45 := hb34.pure hc39
   refine WR.load (dst := some 11) (t := 79) (o := 0) hb45 (by kernel_rfl) (.agg #[.int .u64 a0.a.Lo, .int .u64 a0.a.Hi, .int .u64 a0.b.Lo, .int .u64 a0.b.Hi, .bool a0.narrow, .int .u64 a0.most, .int .u64 a0.size]) (by kernel_rfl) ?_
   refine WR.batch 1 [(1, .int .u8 a1), (2, pt g2 0), (4, pt g12 0), (5, pt g22 0), (10, .bool false), (11, .agg #[.int .u64 a0.a.Lo, .int .u64 a0.a.Hi, .int .u64 a0.b.Lo, .int .u64 a0.b.Hi, .bool a0.narrow, .int .u64 a0.most, .int .u64 a0.size]), (12, pt g2 2)] (by kernel_rfl) ?_
   refine WR.load (dst := some 13) (t := 25) (o := 2) hb45 (by kernel_rfl) (.agg #[.int .u64 a0.b.Lo, .int .u64 a0.b.Hi]) (by kernel_rfl) ?_
   refine WR.call (dst := some 14) (by kernel_rfl) (span_work_mixed_any a0 a0.b w38  ⟨(by omega), (by omega), (by omega), (by omega), (by omega), (by omega)⟩ ⟨(by omega), (by omega)⟩ ) ?_
   rintro _ w46 hc47 rfl
   have hz49 := hc47.size
   have hC48 := hC40.pure hc47
   refine WR.batch 1 [(1, .int .u8 a1), (2, pt g2 0), (4, pt g12 0), (5, pt g22 0), (15, .bool (span_work_mixed a0 a0.b))] (by kernel_rfl) ?_
   exact WR.keep [1, 2, 4, 5, 15] (by kernel_rfl) (hM43 _ ((Chg.refl [] w38).pure hc47))
  ·
   have hk50 := hg42
   intro hM43
   refine WR.batch 5 [(1, .int .u8 a1), (2, pt g2 0), (4, pt g12 0), (5, pt g22 0), (15, .bool true)] (by kernel_rfl) ?_
   exact WR.keep [1, 2, 4, 5, 15] (by kernel_rfl) (hM43 _ (Chg.refl [] w38))
 intro w51 hc52
 have hz54 := hc52.size
 have hC53 := hC40.pure hc52
 refine WR.fin (by kernel_rfl) ?_
 refine go hK33 ?_
 refine CW.cond ((x35 || (span_work_mixed a0 a0.b))) (by kernel_rfl) (fun ht55 => ?_) (fun ht55 => ?_)
 ·
  have hs56 := ifT ht55 hs37
  replace ht55 : (x35 = true) ∨ ((span_work_mixed a0 a0.b) = true) := (orMap (bOrT ht55) (fun h => h) (fun h => h))
  refine CW.seq fun K57 hK57 => ?_
  refine CW.keep [2, 4, 5] (F' := [(2, pt g2 0), (4, pt g12 0), (5, pt g22 0)]) (by kernel_rfl) ?_
  have hb58 := ((hb15.pure hc27).pure hc39).pure hc52
  refine CW.regionG 5 [some (pt g2 0), some (.agg #[.int .u64 a0.a.Lo, .int .u64 a0.a.Hi]), some (pt g2 2), some (.agg #[.int .u64 a0.b.Lo, .int .u64 a0.b.Hi]), none] (fun u => [(16, pt g2 0), (17, .agg #[.int .u64 a0.a.Lo, .int .u64 a0.a.Hi]), (18, pt g2 2), (19, .agg #[.int .u64 a0.b.Lo, .int .u64 a0.b.Hi]), (2, pt g2 0), (4, pt g12 0), (5, pt g22 0)]) (fun _ => by kernel_rfl) (by kernel_rfl) [(4, g12)] (fun i w' => match i with | 0 => True | 1 => True | 2 => True | 3 => True | 4 => Blk w' g12 #[.int .u64 0, .int .u64 0] 25 | _ => True) (fun j => match j with | 0 => trivial | 1 => trivial | 2 => trivial | 3 => trivial | 4 => hb58.pure (Chg.drew w51) | j + 5 => trivial) ?_ [] [] (by kernel_rfl) (fun w' => Chg [g12] w51 w') (fun i v w' => match i with | 0 => True | 1 => True | 2 => True | 3 => True | 4 => Blk w' g12 #[.int .u64 a0.a.Lo, .int .u64 a0.a.Hi] 25 | _ => True) (fun j x w hj h => absurd hj (by simp)) (by kernel_rfl) (by kernel_rfl) (by kernel_rfl) (by kernel_rfl) ((Chg.drew w51).weak (by simp)) (fun _ _ _ h h' => h.step h' (fun t ht => .inl (cL_sub t ht))) ?_ (obsG_batch 1 0 4 (fun _ _ => by kernel_rfl) (by kernel_rfl) ⟨?_, (obsG_batch 1 2 2 (fun _ _ => by kernel_rfl) (by kernel_rfl) ⟨?_, ⟨?_, trivial⟩⟩)⟩) ?_
  ·
   intro i j w1 w2 hij h hc
   match j, hij, h with
   | 0, hij, h => exact trivial
   | 1, hij, h => exact trivial
   | 2, hij, h => exact trivial
   | 3, hij, h => exact trivial
   | 4, hij, h => exact h.chg hc (cL_not (by intro p hp e; simp only [List.mem_cons, List.not_mem_nil, or_false] at hp; rcases hp with rfl <;> (simp only at e ⊢; omega)))
   | n + 5, _, _ => trivial
  ·
   intro i j v w1 w2 hij h hc
   match j, hij, h with
   | 0, _, _ => trivial
   | 1, _, _ => trivial
   | 2, _, _ => trivial
   | 3, _, _ => trivial
   | 4, hij, h => exact h.chg hc (cL_not (by intro p hp e; simp only [List.mem_cons, List.not_mem_nil, or_false] at hp; rcases hp with rfl <;> (simp only at e ⊢; omega)))
   | n + 5, _, _ => trivial
  ·
   intro u59 w60 hW61 hPr64 hp62 hal63
   have hz66 := hW61.size
   have hC65 := hC53.step1 hW61 (by omega)
   have hb67 : Blk w60 g12 #[.int .u64 0, .int .u64 0] 25 := hPr64 4 (.inr (.one (by kernel_rfl)))
   have hb68 := ((hb34.pure hc39).pure hc52).chg1 hW61 (by omega)
   refine WR.load (dst := some 17) (t := 25) (o := 0) hb68 (by kernel_rfl) (.agg #[.int .u64 a0.a.Lo, .int .u64 a0.a.Hi]) (by kernel_rfl) ?_
   refine WR.fin (by kernel_rfl) ?_
   exact fun _ ha => ⟨Chg.refl _ _, _, ha, ⟨⟨fun h => absurd h (by decide), alNone (by decide)⟩, rfl⟩⟩
  ·
   intro u69 w70 hW71 _ hp72 hal73
   have hz76 := hW71.size
   have hC75 := hC53.step1 hW71 (by omega)
   have hb77 := ((hb34.pure hc39).pure hc52).chg1 hW71 (by omega)
   refine WR.load (dst := some 19) (t := 25) (o := 2) hb77 (by kernel_rfl) (.agg #[.int .u64 a0.b.Lo, .int .u64 a0.b.Hi]) (by kernel_rfl) ?_
   refine WR.fin (by kernel_rfl) ?_
   exact fun _ ha => ⟨Chg.refl _ _, _, ha, ⟨⟨fun h => absurd h (by decide), alNone (by decide)⟩, rfl⟩⟩
  ·
   intro u78 w79 hW80 hPr83 hp81 hal82
   have hz85 := hW80.size
   have hC84 := hC53.step1 hW80 (by omega)
   have hb86 : Blk w79 g12 #[.int .u64 0, .int .u64 0] 25 := hPr83 4 (.inl rfl)
   refine WR.store (t := 25) (o := 0) (v := .agg #[.int .u64 a0.a.Lo, .int .u64 a0.a.Hi]) hb86 (by kernel_rfl) #[.int .u64 a0.a.Lo, .int .u64 a0.a.Hi] (by kernel_rfl) ?_
   intro w87 hb88 hc89
   have hz91 := hc89.size
   have hC90 := hC84.step1 hc89 (by omega)
   refine WR.fin (by kernel_rfl) ?_
   exact fun _ ha => ⟨hc89, undef, ha, ⟨⟨fun h => absurd h (by decide), alNone (by decide)⟩, hb88⟩⟩
  intro u92 w93 hW94 hr95 _ _
  have hz99 := hW94.size
  have hC98 := hC53.step1 hW94 (by omega)
  have hp100 : Blk w93 g12 #[.int .u64 a0.a.Lo, .int .u64 a0.a.Hi] 25 := hr95 4 (by omega) (by kernel_rfl)
  refine WR.keep [4, 5, 19] (F' := [(4, pt g12 0), (5, pt g22 0), (19, .agg #[.int .u64 a0.b.Lo, .int .u64 a0.b.Hi])]) (by kernel_rfl) ?_
  have hb104 := ((hb25.pure hc39).pure hc52).chg1 hW94 (by omega)
  refine WR.store (t := 25) (o := 0) (v := .agg #[.int .u64 a0.b.Lo, .int .u64 a0.b.Hi]) hb104 (by kernel_rfl) #[.int .u64 a0.b.Lo, .int .u64 a0.b.Hi] (by kernel_rfl) ?_
  intro w101 hb102 hc103
  have hz106 := hc103.size
  have hC105 := hC98.step1 hc103 (by omega)
  refine WR.fin (by kernel_rfl) ?_
  refine go hK57 ?_
  refine CW.ret ?_
  have hb107 := hp100.chg1 hc103 (by omega)
  exact retC [.agg #[.int .u64 a0.a.Lo, .int .u64 a0.a.Hi], .agg #[.int .u64 a0.b.Lo, .int .u64 a0.b.Hi]] _ rfl ⟨resCell hb107 rfl (by kernel_rfl), resCell hb102 rfl (by kernel_rfl), trivial⟩ (retP_ret (g := (fun r : (TSpan × TSpan) => (.tuple #[TSpan.v r.1, TSpan.v r.2] : Value))) hs56 rfl hC105)
 have hs108 := ifF ht55 hs37
 replace ht55 : (x35 = false) ∧ ((span_work_mixed a0 a0.b) = false) := ⟨(bOrF ht55).1, (bOrF ht55).2⟩
 refine CW.skip ?_
 refine go hK32 ?_
 refine CW.seq fun K109 hK109 => ?_
 refine CW.seq fun K110 hK110 => ?_
 refine CW.regionQ (by kernel_rfl) (by kernel_rfl) ?_
 have hb111 := (hb34.pure hc39).pure hc52
 refine WQ.load (dst := some 20) (t := 79) (o := 0) (fun _ hq => hb111.pure hq) (by kernel_rfl) (.agg #[.int .u64 a0.a.Lo, .int .u64 a0.a.Hi, .int .u64 a0.b.Lo, .int .u64 a0.b.Hi, .bool a0.narrow, .int .u64 a0.most, .int .u64 a0.size]) (by kernel_rfl) ?_
 refine WQ.val (dst := some 21) (pt g2 0) (fun _ => by kernel_rfl) ?_
 refine WQ.val (dst := some 22) (pt g2 0) (fun _ => by kernel_rfl) ?_
 refine WQ.load (dst := some 23) (t := 23) (o := 0) (fun _ hq => hb111.pure hq) (by kernel_rfl) (.int .u64 a0.a.Lo) (by kernel_rfl) ?_
 obtain ⟨x112, hx113⟩ : ∃ x, span_work_below a0 a0.a.Lo = x := ⟨_, rfl⟩
 have hs114 := letS hx113 hs108
 refine WQ.call (dst := some 24) (.bool x112) (fun _ => by kernel_rfl) (fun _ _ h h' => h.pure h') (fun wq hq => retE (g := (fun r : Bool => (.bool r : Value))) hx113 (span_work_below_any a0 a0.a.Lo wq  ⟨(by omega), (by omega), (by omega), (by omega), (by omega), (by omega)⟩ (by omega) )) ?_
 refine WQ.load (dst := some 25) (t := 79) (o := 0) (fun _ hq => hb111.pure hq) (by kernel_rfl) (.agg #[.int .u64 a0.a.Lo, .int .u64 a0.a.Hi, .int .u64 a0.b.Lo, .int .u64 a0.b.Hi, .bool a0.narrow, .int .u64 a0.most, .int .u64 a0.size]) (by kernel_rfl) ?_
 refine WQ.val (dst := some 26) (pt g2 2) (fun _ => by kernel_rfl) ?_
 refine WQ.val (dst := some 27) (pt g2 2) (fun _ => by kernel_rfl) ?_
 refine WQ.load (dst := some 28) (t := 23) (o := 2) (fun _ hq => hb111.pure hq) (by kernel_rfl) (.int .u64 a0.b.Lo) (by kernel_rfl) ?_
 obtain ⟨x115, hx116⟩ : ∃ x, span_work_below a0 a0.b.Lo = x := ⟨_, rfl⟩
 have hs117 := letS hx116 hs114
 refine WQ.call (dst := some 29) (.bool x115) (fun _ => by kernel_rfl) (fun _ _ h h' => h.pure h') (fun wq hq => retE (g := (fun r : Bool => (.bool r : Value))) hx116 (span_work_below_any a0 a0.b.Lo wq  ⟨(by omega), (by omega), (by omega), (by omega), (by omega), (by omega)⟩ (by omega) )) ?_
 refine WQ.val (dst := some 30) (.bool (x112 == x115)) (fun _ => by kernel_rfl) ?_
 refine WQ.fin (by kernel_rfl) ?_
 intro w118 hc119
 have hz121 := hc119.size
 have hC120 := hC53.pure hc119
 refine go hK110 ?_
 refine CW.cond ((x112 == x115)) (by kernel_rfl) (fun ht122 => ?_) (fun ht122 => ?_)
 ·
  have hs123 := ifT ht122 hs117
  replace ht122 : x112 = x115 := (bEqT ht122)
  refine CW.seq fun K124 hK124 => ?_
  refine CW.region ?_
  have hb125 := hb111.pure hc119
  refine WR.load (dst := some 31) (t := 79) (o := 0) hb125 (by kernel_rfl) (.agg #[.int .u64 a0.a.Lo, .int .u64 a0.a.Hi, .int .u64 a0.b.Lo, .int .u64 a0.b.Hi, .bool a0.narrow, .int .u64 a0.most, .int .u64 a0.size]) (by kernel_rfl) ?_
  refine WR.batch 3 [(4, pt g12 0), (5, pt g22 0), (31, .agg #[.int .u64 a0.a.Lo, .int .u64 a0.a.Hi, .int .u64 a0.b.Lo, .int .u64 a0.b.Hi, .bool a0.narrow, .int .u64 a0.most, .int .u64 a0.size]), (34, .int .u8 (IntKind.u8.wrap ((IntKind.u8.wrap (a1 - (23 : Int))) + (19 : Int))))] (by kernel_rfl) ?_
  rcases hx127 : span_work_plain a0 (IntKind.u8.wrap ((IntKind.u8.wrap (a1 - (23 : Int))) + (19 : Int))) with _ | x126
  ·
   have hs131 := optN hx127 hs123
   refine WR.callX (dst := some 35) (by kernel_rfl) (retP_no (g := (fun r : (TSpan × TSpan) => (.tuple #[TSpan.v r.1, TSpan.v r.2] : Value))) hx127 (span_work_plain_any a0 (IntKind.u8.wrap ((IntKind.u8.wrap (a1 - (23 : Int))) + (19 : Int))) w118  ⟨(by omega), (by omega), (by omega), (by omega), (by omega), (by omega)⟩ (wrapU8 _) )) ?_
   intro w129 hc130
   have hz133 := hc130.size
   have hC132 := hC120.pure hc130
   exact panicV (P := Try.prog) (fn := Try.f92) (retP_pan hs131 hC132)
  have hs134 := optS hx127 hs123
  have hx128 : IU64 x126.1.Lo ∧ IU64 x126.1.Hi ∧ IU64 x126.2.Lo ∧ IU64 x126.2.Hi := by exact span_work_plain_ok a0 (IntKind.u8.wrap ((IntKind.u8.wrap (a1 - (23 : Int))) + (19 : Int))) ⟨(by omega), (by omega), (by omega), (by omega), (by omega), (by omega)⟩ (wrapU8 _)  _ hx127
  refine WR.call (dst := some 35) (by kernel_rfl) (retP_yes (g := (fun r : (TSpan × TSpan) => (.tuple #[TSpan.v r.1, TSpan.v r.2] : Value))) hx127 (span_work_plain_any a0 (IntKind.u8.wrap ((IntKind.u8.wrap (a1 - (23 : Int))) + (19 : Int))) w118  ⟨(by omega), (by omega), (by omega), (by omega), (by omega), (by omega)⟩ (wrapU8 _) )) ?_
  rintro _ w135 hc136 rfl
  have hz138 := hc136.size
  have hC137 := hC120.pure hc136
  refine WR.batch 2 [(4, pt g12 0), (5, pt g22 0), (36, .agg #[.int .u64 x126.1.Lo, .int .u64 x126.1.Hi]), (37, .agg #[.int .u64 x126.2.Lo, .int .u64 x126.2.Hi])] (by kernel_rfl) ?_
  have hb142 := ((((hb15.pure hc27).pure hc39).pure hc52).pure hc119).pure hc136
  refine WR.store (t := 25) (o := 0) (v := .agg #[.int .u64 x126.1.Lo, .int .u64 x126.1.Hi]) hb142 (by kernel_rfl) #[.int .u64 x126.1.Lo, .int .u64 x126.1.Hi] (by kernel_rfl) ?_
  intro w139 hb140 hc141
  have hz144 := hc141.size
  have hC143 := hC137.step1 hc141 (by omega)
  have hb148 := ((((hb25.pure hc39).pure hc52).pure hc119).pure hc136).chg1 hc141 (by omega)
  refine WR.store (t := 25) (o := 0) (v := .agg #[.int .u64 x126.2.Lo, .int .u64 x126.2.Hi]) hb148 (by kernel_rfl) #[.int .u64 x126.2.Lo, .int .u64 x126.2.Hi] (by kernel_rfl) ?_
  intro w145 hb146 hc147
  have hz150 := hc147.size
  have hC149 := hC143.step1 hc147 (by omega)
  refine WR.fin (by kernel_rfl) ?_
  refine go hK124 ?_
  refine CW.ret ?_
  have hb151 := hb140.chg1 hc147 (by omega)
  exact retC [.agg #[.int .u64 x126.1.Lo, .int .u64 x126.1.Hi], .agg #[.int .u64 x126.2.Lo, .int .u64 x126.2.Hi]] _ rfl ⟨resCell hb151 rfl (by kernel_rfl), resCell hb146 rfl (by kernel_rfl), trivial⟩ (retP_ret (g := (fun r : (TSpan × TSpan) => (.tuple #[TSpan.v r.1, TSpan.v r.2] : Value))) hs134 rfl hC149)
 have hs152 := ifF ht122 hs117
 replace ht122 : x112 ≠ x115 := (bEqF ht122)
 refine CW.skip ?_
 refine go hK109 ?_
 refine CW.seq fun K153 hK153 => ?_
 refine CW.region ?_
 refine WR.batch 3 [(1, .int .u8 a1), (2, pt g2 0), (4, pt g12 0), (5, pt g22 0), (40, .bool (a1 == (23 : Int)))] (by kernel_rfl) ?_
 refine WR.batch 3 [(2, pt g2 0), (4, pt g12 0), (5, pt g22 0), (43, .bool ((a1 == (23 : Int)) || (a1 == (24 : Int))))] (by generalize (a1 == (23 : Int)) = b; cases b <;> kernel_rfl) ?_
 have hb154 := hb111.pure hc119
 refine WR.load (dst := some 44) (t := 79) (o := 0) hb154 (by kernel_rfl) (.agg #[.int .u64 a0.a.Lo, .int .u64 a0.a.Hi, .int .u64 a0.b.Lo, .int .u64 a0.b.Hi, .bool a0.narrow, .int .u64 a0.most, .int .u64 a0.size]) (by kernel_rfl) ?_
 refine WR.batch 2 [(2, pt g2 0), (4, pt g12 0), (5, pt g22 0), (43, .bool ((a1 == (23 : Int)) || (a1 == (24 : Int)))), (44, .agg #[.int .u64 a0.a.Lo, .int .u64 a0.a.Hi, .int .u64 a0.b.Lo, .int .u64 a0.b.Hi, .bool a0.narrow, .int .u64 a0.most, .int .u64 a0.size]), (46, pt g2 2)] (by kernel_rfl) ?_
 refine WR.load (dst := some 47) (t := 23) (o := 2) hb154 (by kernel_rfl) (.int .u64 a0.b.Lo) (by kernel_rfl) ?_
 obtain ⟨x155, hx156⟩ : ∃ x, span_work_below a0 a0.b.Lo = x := ⟨_, rfl⟩
 have hs157 := letS hx156 hs152
 refine WR.call (dst := some 48) (by kernel_rfl) (retE (g := (fun r : Bool => (.bool r : Value))) hx156 (span_work_below_any a0 a0.b.Lo w118  ⟨(by omega), (by omega), (by omega), (by omega), (by omega), (by omega)⟩ (by omega) )) ?_
 rintro _ w158 hc159 rfl
 have hz161 := hc159.size
 have hC160 := hC120.pure hc159
 refine WR.batch 1 [(2, pt g2 0), (4, pt g12 0), (5, pt g22 0), (49, .bool (((a1 == (23 : Int)) || (a1 == (24 : Int))) == x155))] (by kernel_rfl) ?_
 rcases hx163 : span_must (((a1 == (23 : Int)) || (a1 == (24 : Int))) == x155) with _ | x162
 ·
  have hs166 := optN hx163 hs157
  refine WR.callX (dst := some 50) (by kernel_rfl) (retP_no (g := (fun _ : Unit => (.tuple #[] : Value))) hx163 (span_must_any (((a1 == (23 : Int)) || (a1 == (24 : Int))) == x155) w158  )) ?_
  intro w164 hc165
  have hz168 := hc165.size
  have hC167 := hC160.pure hc165
  exact panicV (P := Try.prog) (fn := Try.f92) (retP_pan hs166 hC167)
 have hs169 := optS hx163 hs157
 refine WR.call (dst := some 50) (by kernel_rfl) (retP_yes (g := (fun _ : Unit => (.tuple #[] : Value))) hx163 (span_must_any (((a1 == (23 : Int)) || (a1 == (24 : Int))) == x155) w158  )) ?_
 rintro _ w170 hc171 rfl
 have hz173 := hc171.size
 have hC172 := hC160.pure hc171
 refine WR.fin (by kernel_rfl) ?_
 refine go hK153 ?_
 refine CW.seq fun K174 hK174 => ?_
 refine CW.keep [2, 4, 5] (F' := [(2, pt g2 0), (4, pt g12 0), (5, pt g22 0)]) (by kernel_rfl) ?_
 have hb175 := (((((hb15.pure hc27).pure hc39).pure hc52).pure hc119).pure hc159).pure hc171
 refine CW.regionG 5 [some (pt g2 0), some (.agg #[.int .u64 a0.a.Lo, .int .u64 a0.a.Hi]), some (pt g2 2), some (.agg #[.int .u64 a0.b.Lo, .int .u64 a0.b.Hi]), none] (fun u => [(51, pt g2 0), (52, .agg #[.int .u64 a0.a.Lo, .int .u64 a0.a.Hi]), (53, pt g2 2), (54, .agg #[.int .u64 a0.b.Lo, .int .u64 a0.b.Hi]), (2, pt g2 0), (4, pt g12 0), (5, pt g22 0)]) (fun _ => by kernel_rfl) (by kernel_rfl) [(4, g12)] (fun i w' => match i with | 0 => True | 1 => True | 2 => True | 3 => True | 4 => Blk w' g12 #[.int .u64 0, .int .u64 0] 25 | _ => True) (fun j => match j with | 0 => trivial | 1 => trivial | 2 => trivial | 3 => trivial | 4 => hb175.pure (Chg.drew w170) | j + 5 => trivial) ?_ [] [] (by kernel_rfl) (fun w' => Chg [g12] w170 w') (fun i v w' => match i with | 0 => True | 1 => True | 2 => True | 3 => True | 4 => Blk w' g12 #[.int .u64 a0.a.Lo, .int .u64 a0.a.Hi] 25 | _ => True) (fun j x w hj h => absurd hj (by simp)) (by kernel_rfl) (by kernel_rfl) (by kernel_rfl) (by kernel_rfl) ((Chg.drew w170).weak (by simp)) (fun _ _ _ h h' => h.step h' (fun t ht => .inl (cL_sub t ht))) ?_ (obsG_batch 1 0 4 (fun _ _ => by kernel_rfl) (by kernel_rfl) ⟨?_, (obsG_batch 1 2 2 (fun _ _ => by kernel_rfl) (by kernel_rfl) ⟨?_, ⟨?_, trivial⟩⟩)⟩) ?_
 ·
  intro i j w1 w2 hij h hc
  match j, hij, h with
  | 0, hij, h => exact trivial
  | 1, hij, h => exact trivial
  | 2, hij, h => exact trivial
  | 3, hij, h => exact trivial
  | 4, hij, h => exact h.chg hc (cL_not (by intro p hp e; simp only [List.mem_cons, List.not_mem_nil, or_false] at hp; rcases hp with rfl <;> (simp only at e ⊢; omega)))
  | n + 5, _, _ => trivial
 ·
  intro i j v w1 w2 hij h hc
  match j, hij, h with
  | 0, _, _ => trivial
  | 1, _, _ => trivial
  | 2, _, _ => trivial
  | 3, _, _ => trivial
  | 4, hij, h => exact h.chg hc (cL_not (by intro p hp e; simp only [List.mem_cons, List.not_mem_nil, or_false] at hp; rcases hp with rfl <;> (simp only at e ⊢; omega)))
  | n + 5, _, _ => trivial
 ·
  intro u176 w177 hW178 hPr181 hp179 hal180
  have hz183 := hW178.size
  have hC182 := hC172.step1 hW178 (by omega)
  have hb184 : Blk w177 g12 #[.int .u64 0, .int .u64 0] 25 := hPr181 4 (.inr (.one (by kernel_rfl)))
  have hb185 := ((hb154.pure hc159).pure hc171).chg1 hW178 (by omega)
  refine WR.load (dst := some 52) (t := 25) (o := 0) hb185 (by kernel_rfl) (.agg #[.int .u64 a0.a.Lo, .int .u64 a0.a.Hi]) (by kernel_rfl) ?_
  refine WR.fin (by kernel_rfl) ?_
  exact fun _ ha => ⟨Chg.refl _ _, _, ha, ⟨⟨fun h => absurd h (by decide), alNone (by decide)⟩, rfl⟩⟩
 ·
  intro u186 w187 hW188 _ hp189 hal190
  have hz193 := hW188.size
  have hC192 := hC172.step1 hW188 (by omega)
  have hb194 := ((hb154.pure hc159).pure hc171).chg1 hW188 (by omega)
  refine WR.load (dst := some 54) (t := 25) (o := 2) hb194 (by kernel_rfl) (.agg #[.int .u64 a0.b.Lo, .int .u64 a0.b.Hi]) (by kernel_rfl) ?_
  refine WR.fin (by kernel_rfl) ?_
  exact fun _ ha => ⟨Chg.refl _ _, _, ha, ⟨⟨fun h => absurd h (by decide), alNone (by decide)⟩, rfl⟩⟩
 ·
  intro u195 w196 hW197 hPr200 hp198 hal199
  have hz202 := hW197.size
  have hC201 := hC172.step1 hW197 (by omega)
  have hb203 : Blk w196 g12 #[.int .u64 0, .int .u64 0] 25 := hPr200 4 (.inl rfl)
  refine WR.store (t := 25) (o := 0) (v := .agg #[.int .u64 a0.a.Lo, .int .u64 a0.a.Hi]) hb203 (by kernel_rfl) #[.int .u64 a0.a.Lo, .int .u64 a0.a.Hi] (by kernel_rfl) ?_
  intro w204 hb205 hc206
  have hz208 := hc206.size
  have hC207 := hC201.step1 hc206 (by omega)
  refine WR.fin (by kernel_rfl) ?_
  exact fun _ ha => ⟨hc206, undef, ha, ⟨⟨fun h => absurd h (by decide), alNone (by decide)⟩, hb205⟩⟩
 intro u209 w210 hW211 hr212 _ _
 have hz216 := hW211.size
 have hC215 := hC172.step1 hW211 (by omega)
 have hp217 : Blk w210 g12 #[.int .u64 a0.a.Lo, .int .u64 a0.a.Hi] 25 := hr212 4 (by omega) (by kernel_rfl)
 refine WR.keep [4, 5, 54] (F' := [(4, pt g12 0), (5, pt g22 0), (54, .agg #[.int .u64 a0.b.Lo, .int .u64 a0.b.Hi])]) (by kernel_rfl) ?_
 have hb221 := (((((hb25.pure hc39).pure hc52).pure hc119).pure hc159).pure hc171).chg1 hW211 (by omega)
 refine WR.store (t := 25) (o := 0) (v := .agg #[.int .u64 a0.b.Lo, .int .u64 a0.b.Hi]) hb221 (by kernel_rfl) #[.int .u64 a0.b.Lo, .int .u64 a0.b.Hi] (by kernel_rfl) ?_
 intro w218 hb219 hc220
 have hz223 := hc220.size
 have hC222 := hC215.step1 hc220 (by omega)
 refine WR.fin (by kernel_rfl) ?_
 refine go hK174 ?_
 refine CW.ret ?_
 have hb224 := hp217.chg1 hc220 (by omega)
 exact retC [.agg #[.int .u64 a0.a.Lo, .int .u64 a0.a.Hi], .agg #[.int .u64 a0.b.Lo, .int .u64 a0.b.Hi]] _ rfl ⟨resCell hb224 rfl (by kernel_rfl), resCell hb219 rfl (by kernel_rfl), trivial⟩ (retP_ret (g := (fun r : (TSpan × TSpan) => (.tuple #[TSpan.v r.1, TSpan.v r.2] : Value))) hs169 rfl hC222)

def span_opposites   : Unit := ()

theorem span_opposites_any    (w : World)    : Calls Try.prog 91 #[] w (RetV w (.agg #[.int .u8 (0 : Int), .int .u8 (0 : Int), .int .u8 (0 : Int), .int .u8 (0 : Int), .int .u8 (0 : Int), .int .u8 (0 : Int), .int .u8 (0 : Int), .int .u8 (0 : Int), .int .u8 (0 : Int), .int .u8 (0 : Int), .int .u8 (0 : Int), .int .u8 (0 : Int), .int .u8 (0 : Int), .int .u8 (0 : Int), .int .u8 (0 : Int), .int .u8 (0 : Int), .int .u8 (0 : Int), .int .u8 (18 : Int), .int .u8 (17 : Int), .int .u8 (22 : Int), .int .u8 (21 : Int), .int .u8 (20 : Int), .int .u8 (19 : Int), .int .u8 (26 : Int), .int .u8 (25 : Int), .int .u8 (24 : Int), .int .u8 (23 : Int), .int .u8 (27 : Int)])) := by
 have hs := span_opposites.eq_1 
 refine calls_of_CW Try.func91 rfl (n := 2) Try.ntmps91 (by kernel_rfl) [] (F := []) (by kernel_rfl) ?_
 refine CW.seq fun K1 hK1 => ?_
 refine CW.region ?_
 refine WR.alloc (dst := some 0) (e := 103) (by kernel_rfl) (Array.replicate 28 (.int .u8 0)) (by kernel_rfl) ?_
 intro g2 w3 hN4
 have hf6 : w.heap.size ≤ g2 := hN4.fresh
 have hfr8 := hN4.fresh
 have hc7 := hN4.chg
 have hz10 := hc7.size
 have hC9 := (Chg.refl [] w).pure hc7
 have hb5 := hN4.blk
 have hg11 := hb5.lt
 refine WR.fin (by kernel_rfl) ?_
 refine go hK1 ?_
 refine CW.seq fun K12 hK12 => ?_
 refine CW.region ?_
 refine WR.batch 1 [(0, pt g2 0), (1, .agg #[.int .u8 0, .int .u8 0, .int .u8 0, .int .u8 0, .int .u8 0, .int .u8 0, .int .u8 0, .int .u8 0, .int .u8 0, .int .u8 0, .int .u8 0, .int .u8 0, .int .u8 0, .int .u8 0, .int .u8 0, .int .u8 0, .int .u8 0, .int .u8 18, .int .u8 17, .int .u8 22, .int .u8 21, .int .u8 20, .int .u8 19, .int .u8 26, .int .u8 25, .int .u8 24, .int .u8 23, .int .u8 27])] (by kernel_rfl) ?_
 refine WR.store (t := 103) (o := 0) (v := .agg #[.int .u8 0, .int .u8 0, .int .u8 0, .int .u8 0, .int .u8 0, .int .u8 0, .int .u8 0, .int .u8 0, .int .u8 0, .int .u8 0, .int .u8 0, .int .u8 0, .int .u8 0, .int .u8 0, .int .u8 0, .int .u8 0, .int .u8 0, .int .u8 18, .int .u8 17, .int .u8 22, .int .u8 21, .int .u8 20, .int .u8 19, .int .u8 26, .int .u8 25, .int .u8 24, .int .u8 23, .int .u8 27]) hb5 (by kernel_rfl) #[.int .u8 0, .int .u8 0, .int .u8 0, .int .u8 0, .int .u8 0, .int .u8 0, .int .u8 0, .int .u8 0, .int .u8 0, .int .u8 0, .int .u8 0, .int .u8 0, .int .u8 0, .int .u8 0, .int .u8 0, .int .u8 0, .int .u8 0, .int .u8 18, .int .u8 17, .int .u8 22, .int .u8 21, .int .u8 20, .int .u8 19, .int .u8 26, .int .u8 25, .int .u8 24, .int .u8 23, .int .u8 27] (by kernel_rfl) ?_
 intro w13 hb14 hc15
 have hz17 := hc15.size
 have hC16 := hC9.step1 hc15 (by omega)
 refine WR.fin (by kernel_rfl) ?_
 refine go hK12 ?_
 refine CW.ret ?_
 exact retC [.agg #[.int .u8 0, .int .u8 0, .int .u8 0, .int .u8 0, .int .u8 0, .int .u8 0, .int .u8 0, .int .u8 0, .int .u8 0, .int .u8 0, .int .u8 0, .int .u8 0, .int .u8 0, .int .u8 0, .int .u8 0, .int .u8 0, .int .u8 0, .int .u8 18, .int .u8 17, .int .u8 22, .int .u8 21, .int .u8 20, .int .u8 19, .int .u8 26, .int .u8 25, .int .u8 24, .int .u8 23, .int .u8 27]] _ rfl ⟨resCell hb14 rfl (by kernel_rfl), trivial⟩ (⟨hC16, (congrArg (fun _ : Unit => (.agg #[.int .u8 0, .int .u8 0, .int .u8 0, .int .u8 0, .int .u8 0, .int .u8 0, .int .u8 0, .int .u8 0, .int .u8 0, .int .u8 0, .int .u8 0, .int .u8 0, .int .u8 0, .int .u8 0, .int .u8 0, .int .u8 0, .int .u8 0, .int .u8 18, .int .u8 17, .int .u8 22, .int .u8 21, .int .u8 20, .int .u8 19, .int .u8 26, .int .u8 25, .int .u8 24, .int .u8 23, .int .u8 27] : Value)) hs).symm⟩)

def span_work_ask_J0 (a0 : Twork) (_a1 : Int) (_a2 : Bool) (v100 : Int) : Option (TSpan × TSpan) := (if decide (v100 ≥ (23 : Int)) then (optF (span_work_signed a0 v100) (none) fun x99 => some (x99.1, x99.2)) else (optF (span_work_plain a0 v100) (none) fun x127 => some (x127.1, x127.2)))

def span_work_ask (a0 : Twork) (a1 : Int) (a2 : Bool)  : Option (TSpan × TSpan) := (if (a1 == (27 : Int)) then (optF (span_work_set a0 a2) (none) fun x38 => some (x38.1, x38.2)) else (if (!a2) then (letF (span_opposites) fun _ => (span_work_ask_J0 a0 a1 a2 (([(0 : Int), (0 : Int), (0 : Int), (0 : Int), (0 : Int), (0 : Int), (0 : Int), (0 : Int), (0 : Int), (0 : Int), (0 : Int), (0 : Int), (0 : Int), (0 : Int), (0 : Int), (0 : Int), (0 : Int), (18 : Int), (17 : Int), (22 : Int), (21 : Int), (20 : Int), (19 : Int), (26 : Int), (25 : Int), (24 : Int), (23 : Int), (27 : Int)] : List Int).getD a1.toNat 0))) else (span_work_ask_J0 a0 a1 a2 a1)))

theorem span_work_ask_J0_ok (a0 : Twork) (a1 : Int) (a2 : Bool) (_h_a0 : IU64 a0.a.Lo ∧ IU64 a0.a.Hi ∧ IU64 a0.b.Lo ∧ IU64 a0.b.Hi ∧ IU64 a0.most ∧ IU64 a0.size) (_h_a1 : IU8 a1) (_hop : 17 ≤ a1 ∧ a1 ≤ 27) (v100 : Int) (_hr_v100 : IU8 v100) : ∀ y, (span_work_ask_J0 a0 a1 a2 v100) = some y → IU64 y.1.Lo ∧ IU64 y.1.Hi ∧ IU64 y.2.Lo ∧ IU64 y.2.Hi := by
 rw [span_work_ask_J0.eq_1]
 refine iteR (p := fun r : Option (TSpan × TSpan) => ∀ y, r = some y → IU64 y.1.Lo ∧ IU64 y.1.Hi ∧ IU64 y.2.Lo ∧ IU64 y.2.Hi) (fun hi1001 => ?_) (fun hi1001 => ?_)
 ·
  replace hi1001 : v100 ≥ (23 : Int) := (of_decide_eq_true hi1001)
  refine optR (p := fun r : Option (TSpan × TSpan) => ∀ y, r = some y → IU64 y.1.Lo ∧ IU64 y.1.Hi ∧ IU64 y.2.Lo ∧ IU64 y.2.Hi) (fun _ => ?_) (fun x99 hx100 => ?_)
  ·
   intro y hy; cases hy
  have hx101 : IU64 x99.1.Lo ∧ IU64 x99.1.Hi ∧ IU64 x99.2.Lo ∧ IU64 x99.2.Hi := by exact span_work_signed_ok a0 v100 ⟨(by omega), (by omega), (by omega), (by omega), (by omega), (by omega)⟩ (by omega)  _ hx100
  intro y hy; cases hy; exact (by exact (show IU64 x99.1.Lo ∧ IU64 x99.1.Hi ∧ IU64 x99.2.Lo ∧ IU64 x99.2.Hi from ⟨(by omega), (by omega), (by omega), (by omega)⟩))
 replace hi1001 : ¬ (v100 ≥ (23 : Int)) := (of_decide_eq_false hi1001)
 refine optR (p := fun r : Option (TSpan × TSpan) => ∀ y, r = some y → IU64 y.1.Lo ∧ IU64 y.1.Hi ∧ IU64 y.2.Lo ∧ IU64 y.2.Hi) (fun _ => ?_) (fun x127 hx128 => ?_)
 ·
  intro y hy; cases hy
 have hx129 : IU64 x127.1.Lo ∧ IU64 x127.1.Hi ∧ IU64 x127.2.Lo ∧ IU64 x127.2.Hi := by exact span_work_plain_ok a0 v100 ⟨(by omega), (by omega), (by omega), (by omega), (by omega), (by omega)⟩ (by omega)  _ hx128
 intro y hy; cases hy; exact (by exact (show IU64 x127.1.Lo ∧ IU64 x127.1.Hi ∧ IU64 x127.2.Lo ∧ IU64 x127.2.Hi from ⟨(by omega), (by omega), (by omega), (by omega)⟩))

theorem span_work_ask_ok (a0 : Twork) (a1 : Int) (a2 : Bool)  (h_a0 : IU64 a0.a.Lo ∧ IU64 a0.a.Hi ∧ IU64 a0.b.Lo ∧ IU64 a0.b.Hi ∧ IU64 a0.most ∧ IU64 a0.size) (h_a1 : IU8 a1) (hop : 17 ≤ a1 ∧ a1 ≤ 27) : ∀ y, (span_work_ask a0 a1 a2) = some y → IU64 y.1.Lo ∧ IU64 y.1.Hi ∧ IU64 y.2.Lo ∧ IU64 y.2.Hi := by
 rw [span_work_ask.eq_1]
 refine iteR (p := fun r : Option (TSpan × TSpan) => ∀ y, r = some y → IU64 y.1.Lo ∧ IU64 y.1.Hi ∧ IU64 y.2.Lo ∧ IU64 y.2.Hi) (fun hi1002 => ?_) (fun hi1002 => ?_)
 ·
  replace hi1002 : a1 = (27 : Int) := (bEqT hi1002)
  refine optR (p := fun r : Option (TSpan × TSpan) => ∀ y, r = some y → IU64 y.1.Lo ∧ IU64 y.1.Hi ∧ IU64 y.2.Lo ∧ IU64 y.2.Hi) (fun _ => ?_) (fun x38 hx39 => ?_)
  ·
   intro y hy; cases hy
  have hx40 : IU64 x38.1.Lo ∧ IU64 x38.1.Hi ∧ IU64 x38.2.Lo ∧ IU64 x38.2.Hi := by exact span_work_set_ok a0 a2 ⟨(by omega), (by omega), (by omega), (by omega), (by omega), (by omega)⟩  _ hx39
  intro y hy; cases hy; exact (by exact (show IU64 x38.1.Lo ∧ IU64 x38.1.Hi ∧ IU64 x38.2.Lo ∧ IU64 x38.2.Hi from ⟨(by omega), (by omega), (by omega), (by omega)⟩))
 replace hi1002 : a1 ≠ (27 : Int) := (bEqF hi1002)
 refine iteR (p := fun r : Option (TSpan × TSpan) => ∀ y, r = some y → IU64 y.1.Lo ∧ IU64 y.1.Hi ∧ IU64 y.2.Lo ∧ IU64 y.2.Hi) (fun hi1003 => ?_) (fun hi1003 => ?_)
 ·
  replace hi1003 : a2 = false := (bNotT hi1003)
  refine letR (p := fun r : Option (TSpan × TSpan) => ∀ y, r = some y → IU64 y.1.Lo ∧ IU64 y.1.Hi ∧ IU64 y.2.Lo ∧ IU64 y.2.Hi) fun x75 _ => ?_
  exact span_work_ask_J0_ok a0 a1 a2 h_a0 h_a1 hop  (([(0 : Int), (0 : Int), (0 : Int), (0 : Int), (0 : Int), (0 : Int), (0 : Int), (0 : Int), (0 : Int), (0 : Int), (0 : Int), (0 : Int), (0 : Int), (0 : Int), (0 : Int), (0 : Int), (0 : Int), (18 : Int), (17 : Int), (22 : Int), (21 : Int), (20 : Int), (19 : Int), (26 : Int), (25 : Int), (24 : Int), (23 : Int), (27 : Int)] : List Int).getD a1.toNat 0) (by have : 0 ≤ (([(0 : Int), (0 : Int), (0 : Int), (0 : Int), (0 : Int), (0 : Int), (0 : Int), (0 : Int), (0 : Int), (0 : Int), (0 : Int), (0 : Int), (0 : Int), (0 : Int), (0 : Int), (0 : Int), (0 : Int), (18 : Int), (17 : Int), (22 : Int), (21 : Int), (20 : Int), (19 : Int), (26 : Int), (25 : Int), (24 : Int), (23 : Int), (27 : Int)] : List Int).getD a1.toNat 0) ∧ (([(0 : Int), (0 : Int), (0 : Int), (0 : Int), (0 : Int), (0 : Int), (0 : Int), (0 : Int), (0 : Int), (0 : Int), (0 : Int), (0 : Int), (0 : Int), (0 : Int), (0 : Int), (0 : Int), (0 : Int), (18 : Int), (17 : Int), (22 : Int), (21 : Int), (20 : Int), (19 : Int), (26 : Int), (25 : Int), (24 : Int), (23 : Int), (27 : Int)] : List Int).getD a1.toNat 0) ≤ 27 := (intsBd [(0 : Int), (0 : Int), (0 : Int), (0 : Int), (0 : Int), (0 : Int), (0 : Int), (0 : Int), (0 : Int), (0 : Int), (0 : Int), (0 : Int), (0 : Int), (0 : Int), (0 : Int), (0 : Int), (0 : Int), (18 : Int), (17 : Int), (22 : Int), (21 : Int), (20 : Int), (19 : Int), (26 : Int), (25 : Int), (24 : Int), (23 : Int), (27 : Int)] (0) (27) (by decide) (j := a1.toNat) (by simp only [List.length_cons, List.length_nil]; omega)); exact (by omega))
 replace hi1003 : a2 = true := (bNotF hi1003)
 exact span_work_ask_J0_ok a0 a1 a2 h_a0 h_a1 hop  a1 (by omega)

set_option maxRecDepth 100000 in
set_option maxHeartbeats 4000000 in
theorem span_work_ask_any (a0 : Twork) (a1 : Int) (a2 : Bool)   (w : World)  (_h_a0 : IU64 a0.a.Lo ∧ IU64 a0.a.Hi ∧ IU64 a0.b.Lo ∧ IU64 a0.b.Hi ∧ IU64 a0.most ∧ IU64 a0.size) (_h_a1 : IU8 a1) (_hop : 17 ≤ a1 ∧ a1 ≤ 27) : Calls Try.prog 57 #[.agg #[.int .u64 a0.a.Lo, .int .u64 a0.a.Hi, .int .u64 a0.b.Lo, .int .u64 a0.b.Hi, .bool a0.narrow, .int .u64 a0.most, .int .u64 a0.size], .int .u8 a1, .bool a2] w (RetP w (.iface 76 (.agg #[])) (((span_work_ask a0 a1 a2)).map (fun r : (TSpan × TSpan) => (.tuple #[TSpan.v r.1, TSpan.v r.2] : Value)))) := by
 have hs := span_work_ask.eq_1 a0 a1 a2
 refine calls_of_CW Try.func57 rfl (n := 32) Try.ntmps57 (by kernel_rfl) [0, 1, 2] (F := [(0, .agg #[.int .u64 a0.a.Lo, .int .u64 a0.a.Hi, .int .u64 a0.b.Lo, .int .u64 a0.b.Hi, .bool a0.narrow, .int .u64 a0.most, .int .u64 a0.size]), (1, .int .u8 a1), (2, .bool a2)]) (by kernel_rfl) ?_
 refine CW.seq fun K1 hK1 => ?_
 refine CW.region ?_
 refine WR.box (dst := some 3) (e := 79) (v := .agg #[.int .u64 a0.a.Lo, .int .u64 a0.a.Hi, .int .u64 a0.b.Lo, .int .u64 a0.b.Hi, .bool a0.narrow, .int .u64 a0.most, .int .u64 a0.size]) (by kernel_rfl) #[.int .u64 a0.a.Lo, .int .u64 a0.a.Hi, .int .u64 a0.b.Lo, .int .u64 a0.b.Hi, .bool a0.narrow, .int .u64 a0.most, .int .u64 a0.size] (by kernel_rfl) ?_
 intro g2 w3 hN4
 have hf6 : w.heap.size ≤ g2 := hN4.fresh
 have hfr8 := hN4.fresh
 have hc7 := hN4.chg
 have hz10 := hc7.size
 have hC9 := (Chg.refl [] w).pure hc7
 have hb5 := hN4.blk
 have hg11 := hb5.lt
 refine WR.alloc (dst := some 6) (e := 25) (by kernel_rfl) #[.int .u64 0, .int .u64 0] (by kernel_rfl) ?_
 intro g12 w13 hN14
 have hf16 : w.heap.size ≤ g12 := Nat.le_trans hC9.size hN14.fresh
 have hfr18 := hN14.fresh
 have hc17 := hN14.chg
 have hz20 := hc17.size
 have hC19 := hC9.pure hc17
 have hb15 := hN14.blk
 have hg21 := hb15.lt
 refine WR.alloc (dst := some 7) (e := 25) (by kernel_rfl) #[.int .u64 0, .int .u64 0] (by kernel_rfl) ?_
 intro g22 w23 hN24
 have hf26 : w.heap.size ≤ g22 := Nat.le_trans hC19.size hN24.fresh
 have hfr28 := hN24.fresh
 have hc27 := hN24.chg
 have hz30 := hc27.size
 have hC29 := hC19.pure hc27
 have hb25 := hN24.blk
 have hg31 := hb25.lt
 refine WR.fin (by kernel_rfl) ?_
 refine go hK1 ?_
 refine CW.seq fun K32 hK32 => ?_
 refine CW.seq fun K33 hK33 => ?_
 refine CW.region ?_
 refine WR.batch 2 [(1, .int .u8 a1), (2, .bool a2), (3, pt g2 0), (6, pt g12 0), (7, pt g22 0), (9, .bool (a1 == (27 : Int)))] (by kernel_rfl) ?_
 refine WR.fin (by kernel_rfl) ?_
 refine go hK33 ?_
 refine CW.cond ((a1 == (27 : Int))) (by kernel_rfl) (fun ht34 => ?_) (fun ht34 => ?_)
 ·
  have hs35 := ifT ht34 hs
  replace ht34 : a1 = (27 : Int) := (bEqT ht34)
  refine CW.seq fun K36 hK36 => ?_
  refine CW.region ?_
  have hb37 := (hb5.pure hc17).pure hc27
  refine WR.load (dst := some 10) (t := 79) (o := 0) hb37 (by kernel_rfl) (.agg #[.int .u64 a0.a.Lo, .int .u64 a0.a.Hi, .int .u64 a0.b.Lo, .int .u64 a0.b.Hi, .bool a0.narrow, .int .u64 a0.most, .int .u64 a0.size]) (by kernel_rfl) ?_
  refine WR.batch 1 [(6, pt g12 0), (7, pt g22 0), (10, .agg #[.int .u64 a0.a.Lo, .int .u64 a0.a.Hi, .int .u64 a0.b.Lo, .int .u64 a0.b.Hi, .bool a0.narrow, .int .u64 a0.most, .int .u64 a0.size]), (11, .bool a2)] (by kernel_rfl) ?_
  rcases hx39 : span_work_set a0 a2 with _ | x38
  ·
   have hs43 := optN hx39 hs35
   refine WR.callX (dst := some 12) (by kernel_rfl) (retP_no (g := (fun r : (TSpan × TSpan) => (.tuple #[TSpan.v r.1, TSpan.v r.2] : Value))) hx39 (span_work_set_any a0 a2 w23  ⟨(by omega), (by omega), (by omega), (by omega), (by omega), (by omega)⟩ )) ?_
   intro w41 hc42
   have hz45 := hc42.size
   have hC44 := hC29.pure hc42
   exact panicV (P := Try.prog) (fn := Try.f57) (retP_pan hs43 hC44)
  have hs46 := optS hx39 hs35
  have hx40 : IU64 x38.1.Lo ∧ IU64 x38.1.Hi ∧ IU64 x38.2.Lo ∧ IU64 x38.2.Hi := by exact span_work_set_ok a0 a2 ⟨(by omega), (by omega), (by omega), (by omega), (by omega), (by omega)⟩  _ hx39
  refine WR.call (dst := some 12) (by kernel_rfl) (retP_yes (g := (fun r : (TSpan × TSpan) => (.tuple #[TSpan.v r.1, TSpan.v r.2] : Value))) hx39 (span_work_set_any a0 a2 w23  ⟨(by omega), (by omega), (by omega), (by omega), (by omega), (by omega)⟩ )) ?_
  rintro _ w47 hc48 rfl
  have hz50 := hc48.size
  have hC49 := hC29.pure hc48
  refine WR.batch 2 [(6, pt g12 0), (7, pt g22 0), (13, .agg #[.int .u64 x38.1.Lo, .int .u64 x38.1.Hi]), (14, .agg #[.int .u64 x38.2.Lo, .int .u64 x38.2.Hi])] (by kernel_rfl) ?_
  have hb54 := (hb15.pure hc27).pure hc48
  refine WR.store (t := 25) (o := 0) (v := .agg #[.int .u64 x38.1.Lo, .int .u64 x38.1.Hi]) hb54 (by kernel_rfl) #[.int .u64 x38.1.Lo, .int .u64 x38.1.Hi] (by kernel_rfl) ?_
  intro w51 hb52 hc53
  have hz56 := hc53.size
  have hC55 := hC49.step1 hc53 (by omega)
  have hb60 := (hb25.pure hc48).chg1 hc53 (by omega)
  refine WR.store (t := 25) (o := 0) (v := .agg #[.int .u64 x38.2.Lo, .int .u64 x38.2.Hi]) hb60 (by kernel_rfl) #[.int .u64 x38.2.Lo, .int .u64 x38.2.Hi] (by kernel_rfl) ?_
  intro w57 hb58 hc59
  have hz62 := hc59.size
  have hC61 := hC55.step1 hc59 (by omega)
  refine WR.fin (by kernel_rfl) ?_
  refine go hK36 ?_
  refine CW.ret ?_
  have hb63 := hb52.chg1 hc59 (by omega)
  exact retC [.agg #[.int .u64 x38.1.Lo, .int .u64 x38.1.Hi], .agg #[.int .u64 x38.2.Lo, .int .u64 x38.2.Hi]] _ rfl ⟨resCell hb63 rfl (by kernel_rfl), resCell hb58 rfl (by kernel_rfl), trivial⟩ (retP_ret (g := (fun r : (TSpan × TSpan) => (.tuple #[TSpan.v r.1, TSpan.v r.2] : Value))) hs46 rfl hC61)
 have hs64 := ifF ht34 hs
 replace ht34 : a1 ≠ (27 : Int) := (bEqF ht34)
 refine CW.skip ?_
 refine go hK32 ?_
 refine CW.seq fun K65 hK65 => ?_
 refine CW.seq fun K66 hK66 => ?_
 refine CW.region ?_
 refine WR.batch 2 [(1, .int .u8 a1), (3, pt g2 0), (6, pt g12 0), (7, pt g22 0), (16, .bool (!a2))] (by kernel_rfl) ?_
 refine WR.fin (by kernel_rfl) ?_
 refine go hK66 ?_
 refine CW.join hK65 (fun F' w' => ∃ (v100 : Int), F' = [(1, .int .u8 v100), (3, pt g2 0), (6, pt g12 0), (7, pt g22 0)] ∧ Chg [] w w' ∧ Blk w' g2 #[.int .u64 a0.a.Lo, .int .u64 a0.a.Hi, .int .u64 a0.b.Lo, .int .u64 a0.b.Hi, .bool a0.narrow, .int .u64 a0.most, .int .u64 a0.size] 79 ∧ Blk w' g12 #[.int .u64 0, .int .u64 0] 25 ∧ Blk w' g22 #[.int .u64 0, .int .u64 0] 25 ∧ (IU8 v100) ∧ (span_work_ask a0 a1 a2) = span_work_ask_J0 a0 a1 a2 v100) ?_ ?_
 ·
  refine CW.cond ((!a2)) (by kernel_rfl) (fun ht73 => ?_) (fun ht73 => ?_)
  ·
   have hs74 := ifT ht73 hs64
   replace ht73 : a2 = false := (bNotT ht73)
   refine CW.region ?_
   obtain ⟨x75, hx76⟩ : ∃ x, span_opposites = x := ⟨_, rfl⟩
   have hs77 := letS hx76 hs74
   refine WR.call (dst := some 17) (by kernel_rfl) (retE (g := (fun _ : Unit => (.agg #[.int .u8 0, .int .u8 0, .int .u8 0, .int .u8 0, .int .u8 0, .int .u8 0, .int .u8 0, .int .u8 0, .int .u8 0, .int .u8 0, .int .u8 0, .int .u8 0, .int .u8 0, .int .u8 0, .int .u8 0, .int .u8 0, .int .u8 0, .int .u8 18, .int .u8 17, .int .u8 22, .int .u8 21, .int .u8 20, .int .u8 19, .int .u8 26, .int .u8 25, .int .u8 24, .int .u8 23, .int .u8 27] : Value))) hx76 (span_opposites_any  w23  )) ?_
   rintro _ w78 hc79 rfl
   have hz81 := hc79.size
   have hC80 := hC29.pure hc79
   refine WR.batch 1 [(3, pt g2 0), (6, pt g12 0), (7, pt g22 0), (17, .agg #[.int .u8 0, .int .u8 0, .int .u8 0, .int .u8 0, .int .u8 0, .int .u8 0, .int .u8 0, .int .u8 0, .int .u8 0, .int .u8 0, .int .u8 0, .int .u8 0, .int .u8 0, .int .u8 0, .int .u8 0, .int .u8 0, .int .u8 0, .int .u8 18, .int .u8 17, .int .u8 22, .int .u8 21, .int .u8 20, .int .u8 19, .int .u8 26, .int .u8 25, .int .u8 24, .int .u8 23, .int .u8 27]), (18, .int .u8 a1)] (by kernel_rfl) ?_
   refine WR.valR (dst := some 19) (v := .int .u8 (([(0 : Int), (0 : Int), (0 : Int), (0 : Int), (0 : Int), (0 : Int), (0 : Int), (0 : Int), (0 : Int), (0 : Int), (0 : Int), (0 : Int), (0 : Int), (0 : Int), (0 : Int), (0 : Int), (0 : Int), (18 : Int), (17 : Int), (22 : Int), (21 : Int), (20 : Int), (19 : Int), (26 : Int), (25 : Int), (24 : Int), (23 : Int), (27 : Int)] : List Int).getD a1.toNat 0)) (w' := w78) (run_idxA (t := 103) (e := 22) (len := 28) (kk := .u8) (kv := .u8) (i := a1) (l := [(0 : Int), (0 : Int), (0 : Int), (0 : Int), (0 : Int), (0 : Int), (0 : Int), (0 : Int), (0 : Int), (0 : Int), (0 : Int), (0 : Int), (0 : Int), (0 : Int), (0 : Int), (0 : Int), (0 : Int), (18 : Int), (17 : Int), (22 : Int), (21 : Int), (20 : Int), (19 : Int), (26 : Int), (25 : Int), (24 : Int), (23 : Int), (27 : Int)]) (by kernel_rfl) (by kernel_rfl) (by kernel_rfl) (by kernel_rfl) (by kernel_rfl) (by kernel_rfl) (by omega) (by omega) w78) ?_
   have hm82 : 0 ≤ (([(0 : Int), (0 : Int), (0 : Int), (0 : Int), (0 : Int), (0 : Int), (0 : Int), (0 : Int), (0 : Int), (0 : Int), (0 : Int), (0 : Int), (0 : Int), (0 : Int), (0 : Int), (0 : Int), (0 : Int), (18 : Int), (17 : Int), (22 : Int), (21 : Int), (20 : Int), (19 : Int), (26 : Int), (25 : Int), (24 : Int), (23 : Int), (27 : Int)] : List Int).getD a1.toNat 0) ∧ (([(0 : Int), (0 : Int), (0 : Int), (0 : Int), (0 : Int), (0 : Int), (0 : Int), (0 : Int), (0 : Int), (0 : Int), (0 : Int), (0 : Int), (0 : Int), (0 : Int), (0 : Int), (0 : Int), (0 : Int), (18 : Int), (17 : Int), (22 : Int), (21 : Int), (20 : Int), (19 : Int), (26 : Int), (25 : Int), (24 : Int), (23 : Int), (27 : Int)] : List Int).getD a1.toNat 0) ≤ 27 := (intsBd [(0 : Int), (0 : Int), (0 : Int), (0 : Int), (0 : Int), (0 : Int), (0 : Int), (0 : Int), (0 : Int), (0 : Int), (0 : Int), (0 : Int), (0 : Int), (0 : Int), (0 : Int), (0 : Int), (0 : Int), (18 : Int), (17 : Int), (22 : Int), (21 : Int), (20 : Int), (19 : Int), (26 : Int), (25 : Int), (24 : Int), (23 : Int), (27 : Int)] (0) (27) (by decide) (j := a1.toNat) (by simp only [List.length_cons, List.length_nil]; omega))
   refine WR.batch 1 [(1, .int .u8 (([(0 : Int), (0 : Int), (0 : Int), (0 : Int), (0 : Int), (0 : Int), (0 : Int), (0 : Int), (0 : Int), (0 : Int), (0 : Int), (0 : Int), (0 : Int), (0 : Int), (0 : Int), (0 : Int), (0 : Int), (18 : Int), (17 : Int), (22 : Int), (21 : Int), (20 : Int), (19 : Int), (26 : Int), (25 : Int), (24 : Int), (23 : Int), (27 : Int)] : List Int).getD a1.toNat 0)), (3, pt g2 0), (6, pt g12 0), (7, pt g22 0)] (by kernel_rfl) ?_
   refine WR.fin (by kernel_rfl) ?_
   have hb83 := ((hb5.pure hc17).pure hc27).pure hc79
   have hb84 := (hb15.pure hc27).pure hc79
   have hb85 := hb25.pure hc79
   exact fun _ ha => ⟨_, ha.keep [1, 3, 6, 7] (F' := [(1, .int .u8 (([(0 : Int), (0 : Int), (0 : Int), (0 : Int), (0 : Int), (0 : Int), (0 : Int), (0 : Int), (0 : Int), (0 : Int), (0 : Int), (0 : Int), (0 : Int), (0 : Int), (0 : Int), (0 : Int), (0 : Int), (18 : Int), (17 : Int), (22 : Int), (21 : Int), (20 : Int), (19 : Int), (26 : Int), (25 : Int), (24 : Int), (23 : Int), (27 : Int)] : List Int).getD a1.toNat 0)), (3, pt g2 0), (6, pt g12 0), (7, pt g22 0)]) (by kernel_rfl), (([(0 : Int), (0 : Int), (0 : Int), (0 : Int), (0 : Int), (0 : Int), (0 : Int), (0 : Int), (0 : Int), (0 : Int), (0 : Int), (0 : Int), (0 : Int), (0 : Int), (0 : Int), (0 : Int), (0 : Int), (18 : Int), (17 : Int), (22 : Int), (21 : Int), (20 : Int), (19 : Int), (26 : Int), (25 : Int), (24 : Int), (23 : Int), (27 : Int)] : List Int).getD a1.toNat 0), rfl, hC80, hb83, hb84, hb85, (by have : 0 ≤ (([(0 : Int), (0 : Int), (0 : Int), (0 : Int), (0 : Int), (0 : Int), (0 : Int), (0 : Int), (0 : Int), (0 : Int), (0 : Int), (0 : Int), (0 : Int), (0 : Int), (0 : Int), (0 : Int), (0 : Int), (18 : Int), (17 : Int), (22 : Int), (21 : Int), (20 : Int), (19 : Int), (26 : Int), (25 : Int), (24 : Int), (23 : Int), (27 : Int)] : List Int).getD a1.toNat 0) ∧ (([(0 : Int), (0 : Int), (0 : Int), (0 : Int), (0 : Int), (0 : Int), (0 : Int), (0 : Int), (0 : Int), (0 : Int), (0 : Int), (0 : Int), (0 : Int), (0 : Int), (0 : Int), (0 : Int), (0 : Int), (18 : Int), (17 : Int), (22 : Int), (21 : Int), (20 : Int), (19 : Int), (26 : Int), (25 : Int), (24 : Int), (23 : Int), (27 : Int)] : List Int).getD a1.toNat 0) ≤ 27 := (intsBd [(0 : Int), (0 : Int), (0 : Int), (0 : Int), (0 : Int), (0 : Int), (0 : Int), (0 : Int), (0 : Int), (0 : Int), (0 : Int), (0 : Int), (0 : Int), (0 : Int), (0 : Int), (0 : Int), (0 : Int), (18 : Int), (17 : Int), (22 : Int), (21 : Int), (20 : Int), (19 : Int), (26 : Int), (25 : Int), (24 : Int), (23 : Int), (27 : Int)] (0) (27) (by decide) (j := a1.toNat) (by simp only [List.length_cons, List.length_nil]; omega)); exact (by omega)), hs77⟩
  have hs86 := ifF ht73 hs64
  replace ht73 : a2 = true := (bNotF ht73)
  refine CW.skip ?_
  have hb87 := (hb5.pure hc17).pure hc27
  have hb88 := hb15.pure hc27
  exact fun _ ha => ⟨_, ha.keep [1, 3, 6, 7] (F' := [(1, .int .u8 a1), (3, pt g2 0), (6, pt g12 0), (7, pt g22 0)]) (by kernel_rfl), a1, rfl, hC29, hb87, hb88, hb25, (by omega), hs86⟩
 rintro _ w69 ⟨v100, rfl, hC67, hb70, hb71, hb72, hr_v100, hsj68⟩
 have hz89 := hC67.size
 have hs90 := hsj68.trans (span_work_ask_J0.eq_1 _ _ _ _)
 have hg91 := hb70.lt
 have hg92 := hb71.lt
 have hg93 := hb72.lt
 refine CW.seq fun K94 hK94 => ?_
 refine CW.seq fun K95 hK95 => ?_
 refine CW.region ?_
 refine WR.batch 2 [(1, .int .u8 v100), (3, pt g2 0), (6, pt g12 0), (7, pt g22 0), (21, .bool (decide (v100 ≥ (23 : Int))))] (by kernel_rfl) ?_
 refine WR.fin (by kernel_rfl) ?_
 refine go hK95 ?_
 refine CW.cond (decide (v100 ≥ (23 : Int))) (by kernel_rfl) (fun ht96 => ?_) (fun ht96 => ?_)
 ·
  have hs97 := ifT ht96 hs90
  replace ht96 : v100 ≥ (23 : Int) := (of_decide_eq_true ht96)
  refine CW.seq fun K98 hK98 => ?_
  refine CW.region ?_
  refine WR.load (dst := some 22) (t := 79) (o := 0) hb70 (by kernel_rfl) (.agg #[.int .u64 a0.a.Lo, .int .u64 a0.a.Hi, .int .u64 a0.b.Lo, .int .u64 a0.b.Hi, .bool a0.narrow, .int .u64 a0.most, .int .u64 a0.size]) (by kernel_rfl) ?_
  refine WR.batch 1 [(6, pt g12 0), (7, pt g22 0), (22, .agg #[.int .u64 a0.a.Lo, .int .u64 a0.a.Hi, .int .u64 a0.b.Lo, .int .u64 a0.b.Hi, .bool a0.narrow, .int .u64 a0.most, .int .u64 a0.size]), (23, .int .u8 v100)] (by kernel_rfl) ?_
  rcases hx100 : span_work_signed a0 v100 with _ | x99
  ·
   have hs104 := optN hx100 hs97
   refine WR.callX (dst := some 24) (by kernel_rfl) (retP_no (g := (fun r : (TSpan × TSpan) => (.tuple #[TSpan.v r.1, TSpan.v r.2] : Value))) hx100 (span_work_signed_any a0 v100 w69  ⟨(by omega), (by omega), (by omega), (by omega), (by omega), (by omega)⟩ (by omega) )) ?_
   intro w102 hc103
   have hz106 := hc103.size
   have hC105 := hC67.pure hc103
   exact panicV (P := Try.prog) (fn := Try.f57) (retP_pan hs104 hC105)
  have hs107 := optS hx100 hs97
  have hx101 : IU64 x99.1.Lo ∧ IU64 x99.1.Hi ∧ IU64 x99.2.Lo ∧ IU64 x99.2.Hi := by exact span_work_signed_ok a0 v100 ⟨(by omega), (by omega), (by omega), (by omega), (by omega), (by omega)⟩ (by omega)  _ hx100
  refine WR.call (dst := some 24) (by kernel_rfl) (retP_yes (g := (fun r : (TSpan × TSpan) => (.tuple #[TSpan.v r.1, TSpan.v r.2] : Value))) hx100 (span_work_signed_any a0 v100 w69  ⟨(by omega), (by omega), (by omega), (by omega), (by omega), (by omega)⟩ (by omega) )) ?_
  rintro _ w108 hc109 rfl
  have hz111 := hc109.size
  have hC110 := hC67.pure hc109
  refine WR.batch 2 [(6, pt g12 0), (7, pt g22 0), (25, .agg #[.int .u64 x99.1.Lo, .int .u64 x99.1.Hi]), (26, .agg #[.int .u64 x99.2.Lo, .int .u64 x99.2.Hi])] (by kernel_rfl) ?_
  have hb115 := hb71.pure hc109
  refine WR.store (t := 25) (o := 0) (v := .agg #[.int .u64 x99.1.Lo, .int .u64 x99.1.Hi]) hb115 (by kernel_rfl) #[.int .u64 x99.1.Lo, .int .u64 x99.1.Hi] (by kernel_rfl) ?_
  intro w112 hb113 hc114
  have hz117 := hc114.size
  have hC116 := hC110.step1 hc114 (by omega)
  have hb121 := (hb72.pure hc109).chg1 hc114 (by omega)
  refine WR.store (t := 25) (o := 0) (v := .agg #[.int .u64 x99.2.Lo, .int .u64 x99.2.Hi]) hb121 (by kernel_rfl) #[.int .u64 x99.2.Lo, .int .u64 x99.2.Hi] (by kernel_rfl) ?_
  intro w118 hb119 hc120
  have hz123 := hc120.size
  have hC122 := hC116.step1 hc120 (by omega)
  refine WR.fin (by kernel_rfl) ?_
  refine go hK98 ?_
  refine CW.ret ?_
  have hb124 := hb113.chg1 hc120 (by omega)
  exact retC [.agg #[.int .u64 x99.1.Lo, .int .u64 x99.1.Hi], .agg #[.int .u64 x99.2.Lo, .int .u64 x99.2.Hi]] _ rfl ⟨resCell hb124 rfl (by kernel_rfl), resCell hb119 rfl (by kernel_rfl), trivial⟩ (retP_ret (g := (fun r : (TSpan × TSpan) => (.tuple #[TSpan.v r.1, TSpan.v r.2] : Value))) hs107 rfl hC122)
 have hs125 := ifF ht96 hs90
 replace ht96 : ¬ (v100 ≥ (23 : Int)) := (of_decide_eq_false ht96)
 refine CW.skip ?_
 refine go hK94 ?_
 refine CW.seq fun K126 hK126 => ?_
 refine CW.region ?_
 refine WR.load (dst := some 27) (t := 79) (o := 0) hb70 (by kernel_rfl) (.agg #[.int .u64 a0.a.Lo, .int .u64 a0.a.Hi, .int .u64 a0.b.Lo, .int .u64 a0.b.Hi, .bool a0.narrow, .int .u64 a0.most, .int .u64 a0.size]) (by kernel_rfl) ?_
 refine WR.batch 1 [(6, pt g12 0), (7, pt g22 0), (27, .agg #[.int .u64 a0.a.Lo, .int .u64 a0.a.Hi, .int .u64 a0.b.Lo, .int .u64 a0.b.Hi, .bool a0.narrow, .int .u64 a0.most, .int .u64 a0.size]), (28, .int .u8 v100)] (by kernel_rfl) ?_
 rcases hx128 : span_work_plain a0 v100 with _ | x127
 ·
  have hs132 := optN hx128 hs125
  refine WR.callX (dst := some 29) (by kernel_rfl) (retP_no (g := (fun r : (TSpan × TSpan) => (.tuple #[TSpan.v r.1, TSpan.v r.2] : Value))) hx128 (span_work_plain_any a0 v100 w69  ⟨(by omega), (by omega), (by omega), (by omega), (by omega), (by omega)⟩ (by omega) )) ?_
  intro w130 hc131
  have hz134 := hc131.size
  have hC133 := hC67.pure hc131
  exact panicV (P := Try.prog) (fn := Try.f57) (retP_pan hs132 hC133)
 have hs135 := optS hx128 hs125
 have hx129 : IU64 x127.1.Lo ∧ IU64 x127.1.Hi ∧ IU64 x127.2.Lo ∧ IU64 x127.2.Hi := by exact span_work_plain_ok a0 v100 ⟨(by omega), (by omega), (by omega), (by omega), (by omega), (by omega)⟩ (by omega)  _ hx128
 refine WR.call (dst := some 29) (by kernel_rfl) (retP_yes (g := (fun r : (TSpan × TSpan) => (.tuple #[TSpan.v r.1, TSpan.v r.2] : Value))) hx128 (span_work_plain_any a0 v100 w69  ⟨(by omega), (by omega), (by omega), (by omega), (by omega), (by omega)⟩ (by omega) )) ?_
 rintro _ w136 hc137 rfl
 have hz139 := hc137.size
 have hC138 := hC67.pure hc137
 refine WR.batch 2 [(6, pt g12 0), (7, pt g22 0), (30, .agg #[.int .u64 x127.1.Lo, .int .u64 x127.1.Hi]), (31, .agg #[.int .u64 x127.2.Lo, .int .u64 x127.2.Hi])] (by kernel_rfl) ?_
 have hb143 := hb71.pure hc137
 refine WR.store (t := 25) (o := 0) (v := .agg #[.int .u64 x127.1.Lo, .int .u64 x127.1.Hi]) hb143 (by kernel_rfl) #[.int .u64 x127.1.Lo, .int .u64 x127.1.Hi] (by kernel_rfl) ?_
 intro w140 hb141 hc142
 have hz145 := hc142.size
 have hC144 := hC138.step1 hc142 (by omega)
 have hb149 := (hb72.pure hc137).chg1 hc142 (by omega)
 refine WR.store (t := 25) (o := 0) (v := .agg #[.int .u64 x127.2.Lo, .int .u64 x127.2.Hi]) hb149 (by kernel_rfl) #[.int .u64 x127.2.Lo, .int .u64 x127.2.Hi] (by kernel_rfl) ?_
 intro w146 hb147 hc148
 have hz151 := hc148.size
 have hC150 := hC144.step1 hc148 (by omega)
 refine WR.fin (by kernel_rfl) ?_
 refine go hK126 ?_
 refine CW.ret ?_
 have hb152 := hb141.chg1 hc148 (by omega)
 exact retC [.agg #[.int .u64 x127.1.Lo, .int .u64 x127.1.Hi], .agg #[.int .u64 x127.2.Lo, .int .u64 x127.2.Hi]] _ rfl ⟨resCell hb152 rfl (by kernel_rfl), resCell hb147 rfl (by kernel_rfl), trivial⟩ (retP_ret (g := (fun r : (TSpan × TSpan) => (.tuple #[TSpan.v r.1, TSpan.v r.2] : Value))) hs135 rfl hC150)
end Go.V
