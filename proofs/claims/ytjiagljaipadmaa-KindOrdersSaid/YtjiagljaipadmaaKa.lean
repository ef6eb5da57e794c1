import Derived.Test.YtjiagljaipadmaaProg
import Derived.Test.YtjiagljaipadmaaSz
namespace Go.V
open Go.RowKit Go.Proofs
structure TKnown where
  Kind : Int
  In : TSpan
deriving Inhabited, DecidableEq

def kind_Right (a0 : TKnown)  : Bool := (if (a0.Kind == (4 : Int)) then ((a0.In.Lo == (0 : Int)) && (a0.In.Hi == (0 : Int))) else (if (a0.Kind == (0 : Int)) then ((a0.In.Lo == (0 : Int)) && (a0.In.Hi == (0 : Int))) else (if (a0.Kind == (1 : Int)) then (letF (span_Right a0.In) fun x37 => x37) else (if (a0.Kind == (2 : Int)) then (letF (span_Right a0.In) fun x51 => x51) else ((a0.Kind == (3 : Int)) && ((a0.In.Lo == (span_Of a0.In.Lo).Lo) && (a0.In.Hi == (span_Of a0.In.Lo).Hi)))))))

set_option maxHeartbeats 4000000 in
theorem kind_Right_any (a0 : TKnown)   (w : World)  (_h_a0 : (0 ≤ a0.Kind ∧ a0.Kind ≤ 255) ∧ (0 ≤ a0.In.Lo ∧ a0.In.Lo ≤ 18446744073709551615) ∧ (0 ≤ a0.In.Hi ∧ a0.In.Hi ≤ 18446744073709551615))  : Calls Try.prog 40 #[.agg #[.int .u8 a0.Kind, .int .u64 a0.In.Lo, .int .u64 a0.In.Hi]] w (RetV w (.bool (kind_Right a0))) := by
 have hs := kind_Right.eq_1 a0
 refine calls_of_CW Try.func40 rfl (n := 32) Try.ntmps40 (by kernel_rfl) [0] (F := [(0, .agg #[.int .u8 a0.Kind, .int .u64 a0.In.Lo, .int .u64 a0.In.Hi])]) (by kernel_rfl) ?_
 refine CW.seq fun K1 hK1 => ?_
 refine CW.region ?_
 refine WR.box (dst := some 1) (e := 56) (v := .agg #[.int .u8 a0.Kind, .int .u64 a0.In.Lo, .int .u64 a0.In.Hi]) (by kernel_rfl) #[.int .u8 a0.Kind, .int .u64 a0.In.Lo, .int .u64 a0.In.Hi] (by kernel_rfl) ?_
 intro g2 w3 hN4
 have hf6 : w.heap.size ≤ g2 := hN4.fresh
 have hfr8 := hN4.fresh
 have hc7 := hN4.chg
 have hz10 := hc7.size
 have hC9 := (Chg.refl [] w).pure hc7
 have hb5 := hN4.blk
 have hg11 := hb5.lt
 refine WR.batch 1 [(1, pt g2 0)] (by kernel_rfl) ?_
 refine WR.fin (by kernel_rfl) ?_
 refine go hK1 ?_
 refine CW.seq fun K12 hK12 => ?_
 refine CW.seq fun K13 hK13 => ?_
 refine CW.region ?_
 refine WR.batch 1 [(1, pt g2 0), (3, pt g2 0)] (by kernel_rfl) ?_
 refine WR.load (dst := some 4) (t := 54) (o := 0) hb5 (by kernel_rfl) (.int .u8 a0.Kind) (by kernel_rfl) ?_
 refine WR.fin (by kernel_rfl) ?_
 refine go hK13 ?_
 refine CW.block ?_
 refine CW.seq fun K14 hK14 => ?_
 refine CW.block ?_
 refine CW.block ?_
 refine CW.seq fun K15 hK15 => ?_
 refine CW.block ?_
 refine CW.block ?_
 refine CW.seq fun K16 hK16 => ?_
 refine CW.seq fun K17 hK17 => ?_
 refine CW.seq fun K18 hK18 => ?_
 refine CW.region ?_
 refine WR.batch 2 [(1, pt g2 0), (4, .int .u8 a0.Kind), (5, .bool (a0.Kind == (4 : Int)))] (by kernel_rfl) ?_
 refine WR.fin (by kernel_rfl) ?_
 refine go hK18 ?_
 refine CW.cond ((a0.Kind == (4 : Int))) (by kernel_rfl) (fun ht19 => ?_) (fun ht19 => ?_)
 ·
  have hs20 := ifT ht19 hs
  replace ht19 : a0.Kind = (4 : Int) := (bEqT ht19)
  refine CW.exit ?_
  refine go hK15 ?_
  refine CW.seq fun K21 hK21 => ?_
  refine CW.seq fun K22 hK22 => ?_
  refine CW.region ?_
  refine WR.batch 1 [(13, pt g2 1)] (by kernel_rfl) ?_
  refine WR.load (dst := some 14) (t := 25) (o := 1) hb5 (by kernel_rfl) (.agg #[.int .u64 a0.In.Lo, .int .u64 a0.In.Hi]) (by kernel_rfl) ?_
  refine WR.batch 1 [(14, .agg #[.int .u64 a0.In.Lo, .int .u64 a0.In.Hi]), (15, .agg #[.int .u64 0, .int .u64 0])] (by kernel_rfl) ?_
  refine WR.valR (dst := some 16) (v := .bool ((a0.In.Lo == (0 : Int)) && (a0.In.Hi == (0 : Int)))) (w' := w3) (run_eqS (t := 25) (xs := #[.int .u64 a0.In.Lo, .int .u64 a0.In.Hi]) (ys := #[.int .u64 0, .int .u64 0]) (neg := false) (b := ((a0.In.Lo == (0 : Int)) && (a0.In.Hi == (0 : Int)))) (by kernel_rfl) (by kernel_rfl) (by kernel_rfl) w3) ?_
  refine WR.batch 1 [(2, .bool ((a0.In.Lo == (0 : Int)) && (a0.In.Hi == (0 : Int))))] (by kernel_rfl) ?_
  refine WR.fin (by kernel_rfl) ?_
  refine go hK22 ?_
  refine CW.ret ?_
  exact retV (.bool ((a0.In.Lo == (0 : Int)) && (a0.In.Hi == (0 : Int)))) (by kernel_rfl) (⟨hC9, (congrArg (fun r : Bool => (.bool r : Value)) hs20).symm⟩)
 have hs23 := ifF ht19 hs
 replace ht19 : a0.Kind ≠ (4 : Int) := (bEqF ht19)
 refine CW.skip ?_
 refine go hK17 ?_
 refine CW.seq fun K24 hK24 => ?_
 refine CW.seq fun K25 hK25 => ?_
 refine CW.region ?_
 refine WR.batch 2 [(1, pt g2 0), (4, .int .u8 a0.Kind), (7, .bool (a0.Kind == (0 : Int)))] (by kernel_rfl) ?_
 refine WR.fin (by kernel_rfl) ?_
 refine go hK25 ?_
 refine CW.cond ((a0.Kind == (0 : Int))) (by kernel_rfl) (fun ht26 => ?_) (fun ht26 => ?_)
 ·
  have hs27 := ifT ht26 hs23
  replace ht26 : a0.Kind = (0 : Int) := (bEqT ht26)
  refine CW.exit ?_
  refine go hK15 ?_
  refine CW.seq fun K28 hK28 => ?_
  refine CW.seq fun K29 hK29 => ?_
  refine CW.region ?_
  refine WR.batch 1 [(13, pt g2 1)] (by kernel_rfl) ?_
  refine WR.load (dst := some 14) (t := 25) (o := 1) hb5 (by kernel_rfl) (.agg #[.int .u64 a0.In.Lo, .int .u64 a0.In.Hi]) (by kernel_rfl) ?_
  refine WR.batch 1 [(14, .agg #[.int .u64 a0.In.Lo, .int .u64 a0.In.Hi]), (15, .agg #[.int .u64 0, .int .u64 0])] (by kernel_rfl) ?_
  refine WR.valR (dst := some 16) (v := .bool ((a0.In.Lo == (0 : Int)) && (a0.In.Hi == (0 : Int)))) (w' := w3) (run_eqS (t := 25) (xs := #[.int .u64 a0.In.Lo, .int .u64 a0.In.Hi]) (ys := #[.int .u64 0, .int .u64 0]) (neg := false) (b := ((a0.In.Lo == (0 : Int)) && (a0.In.Hi == (0 : Int)))) (by kernel_rfl) (by kernel_rfl) (by kernel_rfl) w3) ?_
  refine WR.batch 1 [(2, .bool ((a0.In.Lo == (0 : Int)) && (a0.In.Hi == (0 : Int))))] (by kernel_rfl) ?_
  refine WR.fin (by kernel_rfl) ?_
  refine go hK29 ?_
  refine CW.ret ?_
  exact retV (.bool ((a0.In.Lo == (0 : Int)) && (a0.In.Hi == (0 : Int)))) (by kernel_rfl) (⟨hC9, (congrArg (fun r : Bool => (.bool r : Value)) hs27).symm⟩)
 have hs30 := ifF ht26 hs23
 replace ht26 : a0.Kind ≠ (0 : Int) := (bEqF ht26)
 refine CW.skip ?_
 refine go hK24 ?_
 refine CW.seq fun K31 hK31 => ?_
 refine CW.seq fun K32 hK32 => ?_
 refine CW.region ?_
 refine WR.batch 2 [(1, pt g2 0), (4, .int .u8 a0.Kind), (9, .bool (a0.Kind == (1 : Int)))] (by kernel_rfl) ?_
 refine WR.fin (by kernel_rfl) ?_
 refine go hK32 ?_
 refine CW.cond ((a0.Kind == (1 : Int))) (by kernel_rfl) (fun ht33 => ?_) (fun ht33 => ?_)
 ·
  have hs34 := ifT ht33 hs30
  replace ht33 : a0.Kind = (1 : Int) := (bEqT ht33)
  refine CW.exit ?_
  refine go hK14 ?_
  refine CW.seq fun K35 hK35 => ?_
  refine CW.seq fun K36 hK36 => ?_
  refine CW.region ?_
  refine WR.batch 1 [(17, pt g2 1)] (by kernel_rfl) ?_
  refine WR.load (dst := some 18) (t := 25) (o := 1) hb5 (by kernel_rfl) (.agg #[.int .u64 a0.In.Lo, .int .u64 a0.In.Hi]) (by kernel_rfl) ?_
  obtain ⟨x37, hx38⟩ : ∃ x, span_Right a0.In = x := ⟨_, rfl⟩
  have hs39 := letS hx38 hs34
  refine WR.call (dst := some 19) (by kernel_rfl) (retE (g := fun r : Bool => (.bool r : Value)) hx38 (span_Right_any a0.In w3  ⟨(by omega), (by omega)⟩ )) ?_
  rintro _ w40 hc41 rfl
  have hz43 := hc41.size
  have hC42 := hC9.pure hc41
  have hb44 := hb5.pure hc41
  refine WR.batch 1 [(2, .bool x37)] (by kernel_rfl) ?_
  refine WR.fin (by kernel_rfl) ?_
  refine go hK36 ?_
  refine CW.ret ?_
  exact retV (.bool x37) (by kernel_rfl) (⟨hC42, (congrArg (fun r : Bool => (.bool r : Value)) hs39).symm⟩)
 have hs45 := ifF ht33 hs30
 replace ht33 : a0.Kind ≠ (1 : Int) := (bEqF ht33)
 refine CW.skip ?_
 refine go hK31 ?_
 refine CW.seq fun K46 hK46 => ?_
 refine CW.region ?_
 refine WR.batch 2 [(1, pt g2 0), (11, .bool (a0.Kind == (2 : Int)))] (by kernel_rfl) ?_
 refine WR.fin (by kernel_rfl) ?_
 refine go hK46 ?_
 refine CW.cond ((a0.Kind == (2 : Int))) (by kernel_rfl) (fun ht47 => ?_) (fun ht47 => ?_)
 ·
  have hs48 := ifT ht47 hs45
  replace ht47 : a0.Kind = (2 : Int) := (bEqT ht47)
  refine CW.exit ?_
  refine go hK14 ?_
  refine CW.seq fun K49 hK49 => ?_
  refine CW.seq fun K50 hK50 => ?_
  refine CW.region ?_
  refine WR.batch 1 [(17, pt g2 1)] (by kernel_rfl) ?_
  refine WR.load (dst := some 18) (t := 25) (o := 1) hb5 (by kernel_rfl) (.agg #[.int .u64 a0.In.Lo, .int .u64 a0.In.Hi]) (by kernel_rfl) ?_
  obtain ⟨x51, hx52⟩ : ∃ x, span_Right a0.In = x := ⟨_, rfl⟩
  have hs53 := letS hx52 hs48
  refine WR.call (dst := some 19) (by kernel_rfl) (retE (g := fun r : Bool => (.bool r : Value)) hx52 (span_Right_any a0.In w3  ⟨(by omega), (by omega)⟩ )) ?_
  rintro _ w54 hc55 rfl
  have hz57 := hc55.size
  have hC56 := hC9.pure hc55
  have hb58 := hb5.pure hc55
  refine WR.batch 1 [(2, .bool x51)] (by kernel_rfl) ?_
  refine WR.fin (by kernel_rfl) ?_
  refine go hK50 ?_
  refine CW.ret ?_
  exact retV (.bool x51) (by kernel_rfl) (⟨hC56, (congrArg (fun r : Bool => (.bool r : Value)) hs53).symm⟩)
 have hs59 := ifF ht47 hs45
 replace ht47 : a0.Kind ≠ (2 : Int) := (bEqF ht47)
 refine CW.skip ?_
 refine go hK16 ?_
 refine CW.exit ?_
 refine go hK12 ?_
 refine CW.seq fun K60 hK60 => ?_
 refine CW.regionQ (by kernel_rfl) (by kernel_rfl) ?_
 refine WQ.val (dst := some 20) (pt g2 0) (fun _ => by kernel_rfl) ?_
 refine WQ.load (dst := some 21) (t := 54) (o := 0) (fun _ hq => hb5.pure hq) (by kernel_rfl) (.int .u8 a0.Kind) (by kernel_rfl) ?_
 refine WQ.val (dst := some 22) (.bool (a0.Kind == (3 : Int))) (fun _ => by kernel_rfl) ?_
 refine WQ.val (dst := some 23) (.bool (a0.Kind == (3 : Int))) (fun _ => by kernel_rfl) ?_
 refine WQ.merge 12 [(31, .bool ((a0.Kind == (3 : Int)) && ((a0.In.Lo == (span_Of a0.In.Lo).Lo) && (a0.In.Hi == (span_Of a0.In.Lo).Hi))))] (fun Q' => ?_) ?_
 ·
  cases hg61 : (a0.Kind == (3 : Int))
  ·
   replace hg61 : a0.Kind ≠ (3 : Int) := (bEqF hg61)
   intro hM62
   refine WQ.pass1 (dst := some 24) (by kernel_rfl) ?_
   refine WQ.pass1 (dst := some 25) (by kernel_rfl) ?_
   refine WQ.pass1 (dst := some 26) (by kernel_rfl) ?_
   refine WQ.pass1 (dst := some 27) (by kernel_rfl) ?_
   refine WQ.pass1 (dst := some 28) (by kernel_rfl) ?_
   refine WQ.pass1 (dst := some 29) (by kernel_rfl) ?_
   refine WQ.pass1 (dst := some 30) (by kernel_rfl) ?_
   refine WQ.val (dst := some 31) (.bool false) (fun _ => by kernel_rfl) ?_
   exact WQ.keep [31] (by kernel_rfl) hM62
  ·
   replace hg61 : a0.Kind = (3 : Int) := (bEqT hg61)
   intro hM62
   refine WQ.val (dst := some 24) (pt g2 1) (fun _ => by kernel_rfl) ?_
   refine WQ.load (dst := some 25) (t := 25) (o := 1) (fun _ hq => hb5.pure hq) (by kernel_rfl) (.agg #[.int .u64 a0.In.Lo, .int .u64 a0.In.Hi]) (by kernel_rfl) ?_
   refine WQ.val (dst := some 26) (pt g2 1) (fun _ => by kernel_rfl) ?_
   refine WQ.val (dst := some 27) (pt g2 1) (fun _ => by kernel_rfl) ?_
   refine WQ.load (dst := some 28) (t := 23) (o := 1) (fun _ hq => hb5.pure hq) (by kernel_rfl) (.int .u64 a0.In.Lo) (by kernel_rfl) ?_
   have hx63 : (0 ≤ (span_Of a0.In.Lo).Lo ∧ (span_Of a0.In.Lo).Lo ≤ 18446744073709551615) ∧ (0 ≤ (span_Of a0.In.Lo).Hi ∧ (span_Of a0.In.Lo).Hi ≤ 18446744073709551615) := span_Of_ok a0.In.Lo (by omega) 
   refine WQ.call (dst := some 29) (.agg #[.int .u64 (span_Of a0.In.Lo).Lo, .int .u64 (span_Of a0.In.Lo).Hi]) (fun _ => by kernel_rfl) (fun _ _ h h' => h.pure h') (fun wq hq => span_Of_any a0.In.Lo wq  (by omega) ) ?_
   refine WQ.val (dst := some 30) (.bool ((a0.In.Lo == (span_Of a0.In.Lo).Lo) && (a0.In.Hi == (span_Of a0.In.Lo).Hi))) (run_eqS (t := 25) (xs := #[.int .u64 a0.In.Lo, .int .u64 a0.In.Hi]) (ys := #[.int .u64 (span_Of a0.In.Lo).Lo, .int .u64 (span_Of a0.In.Lo).Hi]) (neg := false) (b := ((a0.In.Lo == (span_Of a0.In.Lo).Lo) && (a0.In.Hi == (span_Of a0.In.Lo).Hi))) (by kernel_rfl) (by kernel_rfl) (by kernel_rfl)) ?_
   refine WQ.val (dst := some 31) (.bool ((a0.In.Lo == (span_Of a0.In.Lo).Lo) && (a0.In.Hi == (span_Of a0.In.Lo).Hi))) (fun _ => by kernel_rfl) ?_
   exact WQ.keep [31] (by kernel_rfl) hM62
 have hx64 : (0 ≤ (span_Of a0.In.Lo).Lo ∧ (span_Of a0.In.Lo).Lo ≤ 18446744073709551615) ∧ (0 ≤ (span_Of a0.In.Lo).Hi ∧ (span_Of a0.In.Lo).Hi ≤ 18446744073709551615) := span_Of_ok a0.In.Lo (by omega) 
 refine WQ.val (dst := some 2) (.bool ((a0.Kind == (3 : Int)) && ((a0.In.Lo == (span_Of a0.In.Lo).Lo) && (a0.In.Hi == (span_Of a0.In.Lo).Hi)))) (fun _ => by kernel_rfl) ?_
 refine WQ.fin (by kernel_rfl) ?_
 intro w65 hc66
 have hz68 := hc66.size
 have hC67 := hC9.pure hc66
 have hb69 := hb5.pure hc66
 refine go hK60 ?_
 refine CW.ret ?_
 exact retV (.bool ((a0.Kind == (3 : Int)) && ((a0.In.Lo == (span_Of a0.In.Lo).Lo) && (a0.In.Hi == (span_Of a0.In.Lo).Hi)))) (by kernel_rfl) (⟨hC67, (congrArg (fun r : Bool => (.bool r : Value)) hs59).symm⟩)

def kind_number (a0 : TKnown)  : (TSpan × Bool) := (if (a0.Kind == (4 : Int)) then ((⟨(0 : Int), (65535 : Int)⟩ : TSpan), true) else (a0.In, (a0.Kind == (1 : Int))))

theorem kind_number_ok (a0 : TKnown)  (_h_a0 : (0 ≤ a0.Kind ∧ a0.Kind ≤ 255) ∧ (0 ≤ a0.In.Lo ∧ a0.In.Lo ≤ 18446744073709551615) ∧ (0 ≤ a0.In.Hi ∧ a0.In.Hi ≤ 18446744073709551615))  : (0 ≤ (kind_number a0).1.Lo ∧ (kind_number a0).1.Lo ≤ 18446744073709551615) ∧ (0 ≤ (kind_number a0).1.Hi ∧ (kind_number a0).1.Hi ≤ 18446744073709551615) := by
 rw [kind_number.eq_1]
 refine iteR (p := fun r : (TSpan × Bool) => (0 ≤ r.1.Lo ∧ r.1.Lo ≤ 18446744073709551615) ∧ (0 ≤ r.1.Hi ∧ r.1.Hi ≤ 18446744073709551615)) (fun hi1001 => ?_) (fun hi1001 => ?_)
 ·
  replace hi1001 : a0.Kind = (4 : Int) := (bEqT hi1001)
  exact (by exact (show (0 ≤ (0 : Int) ∧ (0 : Int) ≤ 18446744073709551615) ∧ (0 ≤ (65535 : Int) ∧ (65535 : Int) ≤ 18446744073709551615) from ⟨(by omega), (by omega)⟩))
 replace hi1001 : a0.Kind ≠ (4 : Int) := (bEqF hi1001)
 exact (by exact (show (0 ≤ a0.In.Lo ∧ a0.In.Lo ≤ 18446744073709551615) ∧ (0 ≤ a0.In.Hi ∧ a0.In.Hi ≤ 18446744073709551615) from ⟨(by omega), (by omega)⟩))

theorem kind_number_any (a0 : TKnown)   (w : World)  (_h_a0 : (0 ≤ a0.Kind ∧ a0.Kind ≤ 255) ∧ (0 ≤ a0.In.Lo ∧ a0.In.Lo ≤ 18446744073709551615) ∧ (0 ≤ a0.In.Hi ∧ a0.In.Hi ≤ 18446744073709551615))  : Calls Try.prog 64 #[.agg #[.int .u8 a0.Kind, .int .u64 a0.In.Lo, .int .u64 a0.In.Hi]] w (RetV w (.tuple #[.agg #[.int .u64 (kind_number a0).1.Lo, .int .u64 (kind_number a0).1.Hi], .bool (kind_number a0).2])) := by
 have hs := kind_number.eq_1 a0
 refine calls_of_CW Try.func64 rfl (n := 13) Try.ntmps64 (by kernel_rfl) [0] (F := [(0, .agg #[.int .u8 a0.Kind, .int .u64 a0.In.Lo, .int .u64 a0.In.Hi])]) (by kernel_rfl) ?_
 refine CW.seq fun K1 hK1 => ?_
 refine CW.region ?_
 refine WR.box (dst := some 1) (e := 56) (v := .agg #[.int .u8 a0.Kind, .int .u64 a0.In.Lo, .int .u64 a0.In.Hi]) (by kernel_rfl) #[.int .u8 a0.Kind, .int .u64 a0.In.Lo, .int .u64 a0.In.Hi] (by kernel_rfl) ?_
 intro g2 w3 hN4
 have hf6 : w.heap.size ≤ g2 := hN4.fresh
 have hfr8 := hN4.fresh
 have hc7 := hN4.chg
 have hz10 := hc7.size
 have hC9 := (Chg.refl [] w).pure hc7
 have hb5 := hN4.blk
 have hg11 := hb5.lt
 refine WR.alloc (dst := some 2) (e := 25) (by kernel_rfl) #[.int .u64 0, .int .u64 0] (by kernel_rfl) ?_
 intro g12 w13 hN14
 have hl17 : g2 < g12 := Nat.lt_of_lt_of_le hb5.lt hN14.fresh
 have hf16 : w.heap.size ≤ g12 := Nat.le_trans hC9.size hN14.fresh
 have hfr19 := hN14.fresh
 have hc18 := hN14.chg
 have hz21 := hc18.size
 have hC20 := hC9.pure hc18
 have hb22 := hb5.pure hc18
 have hb15 := hN14.blk
 have hg23 := hb15.lt
 refine WR.batch 1 [(1, pt g2 0), (2, pt g12 0)] (by kernel_rfl) ?_
 refine WR.fin (by kernel_rfl) ?_
 refine go hK1 ?_
 refine CW.seq fun K24 hK24 => ?_
 refine CW.seq fun K25 hK25 => ?_
 refine CW.region ?_
 refine WR.batch 1 [(1, pt g2 0), (2, pt g12 0), (4, pt g2 0)] (by kernel_rfl) ?_
 refine WR.load (dst := some 5) (t := 54) (o := 0) hb22 (by kernel_rfl) (.int .u8 a0.Kind) (by kernel_rfl) ?_
 refine WR.batch 1 [(1, pt g2 0), (2, pt g12 0), (6, .bool (a0.Kind == (4 : Int)))] (by kernel_rfl) ?_
 refine WR.fin (by kernel_rfl) ?_
 refine go hK25 ?_
 refine CW.cond ((a0.Kind == (4 : Int))) (by kernel_rfl) (fun ht26 => ?_) (fun ht26 => ?_)
 ·
  have hs27 := ifT ht26 hs
  replace ht26 : a0.Kind = (4 : Int) := (bEqT ht26)
  refine CW.seq fun K28 hK28 => ?_
  refine CW.region ?_
  refine WR.batch 1 [(2, pt g12 0), (7, .agg #[.int .u64 0, .int .u64 65535])] (by kernel_rfl) ?_
  refine WR.store (t := 25) (o := 0) (v := .agg #[.int .u64 0, .int .u64 65535]) hb15 (by kernel_rfl) #[.int .u64 0, .int .u64 65535] (by kernel_rfl) ?_
  intro w29 hb30 hc31
  have hz33 := hc31.size
  have hC32 := hC20.step1 hc31 (by omega)
  have hb34 := hb22.chg1 hc31 (by omega)
  refine WR.batch 1 [(2, pt g12 0), (3, .bool true)] (by kernel_rfl) ?_
  refine WR.fin (by kernel_rfl) ?_
  refine go hK28 ?_
  refine CW.ret ?_
  exact retC [.agg #[.int .u64 0, .int .u64 65535], .bool true] (.tuple #[.agg #[.int .u64 0, .int .u64 65535], .bool true]) rfl ⟨resCell hb30 rfl (by kernel_rfl), rfl, trivial⟩ (⟨hC32, (congrArg (fun r : (TSpan × Bool) => (.tuple #[.agg #[.int .u64 r.1.Lo, .int .u64 r.1.Hi], .bool r.2] : Value)) hs27).symm⟩)
 have hs35 := ifF ht26 hs
 replace ht26 : a0.Kind ≠ (4 : Int) := (bEqF ht26)
 refine CW.skip ?_
 refine go hK24 ?_
 refine CW.seq fun K36 hK36 => ?_
 refine CW.keep [1, 2] (F' := [(1, pt g2 0), (2, pt g12 0)]) (by kernel_rfl) ?_
 refine CW.regionG 6 [some (pt g2 1), some (.agg #[.int .u64 a0.In.Lo, .int .u64 a0.In.Hi]), some (pt g2 0), some (.int .u8 a0.Kind), some (.bool (a0.Kind == (1 : Int))), none] (fun u => [(8, pt g2 1), (9, .agg #[.int .u64 a0.In.Lo, .int .u64 a0.In.Hi]), (10, pt g2 0), (11, .int .u8 a0.Kind), (12, .bool (a0.Kind == (1 : Int))), (1, pt g2 0), (2, pt g12 0)]) (fun _ => by kernel_rfl) (by kernel_rfl) [(5, g12)] (fun i w' => match i with | 0 => True | 1 => True | 2 => True | 3 => True | 4 => True | 5 => Blk w' g12 #[.int .u64 0, .int .u64 0] 25 | _ => True) (fun j => match j with | 0 => trivial | 1 => trivial | 2 => trivial | 3 => trivial | 4 => trivial | 5 => hb15.pure (Chg.drew w13) | j + 6 => trivial) ?_ [] [] (by kernel_rfl) (fun w' => Chg [g12] w13 w') (fun i v w' => match i with | 0 => True | 1 => True | 2 => True | 3 => True | 4 => True | 5 => Blk w' g12 #[.int .u64 a0.In.Lo, .int .u64 a0.In.Hi] 25 | _ => True) (fun j x w hj h => absurd hj (by simp)) (by kernel_rfl) (by kernel_rfl) (by kernel_rfl) (by kernel_rfl) ((Chg.drew w13).weak (by simp)) (fun _ _ _ h h' => h.step h' (fun t ht => .inl (cL_sub t ht))) ?_ (obsG_batch 1 0 5 (fun _ _ => by kernel_rfl) (by kernel_rfl) ⟨?_, (obsG_batch 1 2 3 (fun _ _ => by kernel_rfl) (by kernel_rfl) ⟨?_, (obsG_batch 1 4 1 (fun _ _ => by kernel_rfl) (by kernel_rfl) ⟨?_, trivial⟩)⟩)⟩) ?_
 ·
  intro i j w1 w2 hij h hc
  match j, hij, h with
  | 0, hij, h => exact trivial
  | 1, hij, h => exact trivial
  | 2, hij, h => exact trivial
  | 3, hij, h => exact trivial
  | 4, hij, h => exact trivial
  | 5, hij, h => exact h.chg hc (cL_not (by intro p hp e; simp only [List.mem_cons, List.not_mem_nil, or_false] at hp; rcases hp with rfl <;> (simp only at e ⊢; omega)))
  | n + 6, _, _ => trivial
 ·
  intro i j v w1 w2 hij h hc
  match j, hij, h with
  | 0, _, _ => trivial
  | 1, _, _ => trivial
  | 2, _, _ => trivial
  | 3, _, _ => trivial
  | 4, _, _ => trivial
  | 5, hij, h => exact h.chg hc (cL_not (by intro p hp e; simp only [List.mem_cons, List.not_mem_nil, or_false] at hp; rcases hp with rfl <;> (simp only at e ⊢; omega)))
  | n + 6, _, _ => trivial
 ·
  intro u37 w38 hW39 hPr42 hp40 hal41
  have hz44 := hW39.size
  have hC43 := hC20.step1 hW39 (by omega)
  have hb45 := hb22.chg1 hW39 (by omega)
  have hb46 : Blk w38 g12 #[.int .u64 0, .int .u64 0] 25 := hPr42 5 (.inr (.one (by kernel_rfl)))
  refine WR.load (dst := some 9) (t := 25) (o := 1) hb45 (by kernel_rfl) (.agg #[.int .u64 a0.In.Lo, .int .u64 a0.In.Hi]) (by kernel_rfl) ?_
  refine WR.fin (by kernel_rfl) ?_
  exact fun _ ha => ⟨Chg.refl _ _, _, ha, ⟨⟨fun h => absurd h (by decide), alNone (by decide)⟩, rfl⟩⟩
 ·
  intro u47 w48 hW49 _ hp50 hal51
  have hz54 := hW49.size
  have hC53 := hC20.step1 hW49 (by omega)
  have hb55 := hb22.chg1 hW49 (by omega)
  refine WR.load (dst := some 11) (t := 54) (o := 0) hb55 (by kernel_rfl) (.int .u8 a0.Kind) (by kernel_rfl) ?_
  refine WR.fin (by kernel_rfl) ?_
  exact fun _ ha => ⟨Chg.refl _ _, _, ha, ⟨⟨fun h => absurd h (by decide), alNone (by decide)⟩, rfl⟩⟩
 ·
  intro u56 w57 hW58 hPr61 hp59 hal60
  have hz63 := hW58.size
  have hC62 := hC20.step1 hW58 (by omega)
  have hb64 := hb22.chg1 hW58 (by omega)
  have hb65 : Blk w57 g12 #[.int .u64 0, .int .u64 0] 25 := hPr61 5 (.inl rfl)
  refine WR.store (t := 25) (o := 0) (v := .agg #[.int .u64 a0.In.Lo, .int .u64 a0.In.Hi]) hb65 (by kernel_rfl) #[.int .u64 a0.In.Lo, .int .u64 a0.In.Hi] (by kernel_rfl) ?_
  intro w66 hb67 hc68
  have hz70 := hc68.size
  have hC69 := hC62.step1 hc68 (by omega)
  have hb71 := hb64.chg1 hc68 (by omega)
  refine WR.fin (by kernel_rfl) ?_
  exact fun _ ha => ⟨hc68, undef, ha, ⟨⟨fun h => absurd h (by decide), alNone (by decide)⟩, hb67⟩⟩
 intro u72 w73 hW74 hr75 _ _
 have hz79 := hW74.size
 have hC78 := hC20.step1 hW74 (by omega)
 have hb80 := hb22.chg1 hW74 (by omega)
 have hp81 : Blk w73 g12 #[.int .u64 a0.In.Lo, .int .u64 a0.In.Hi] 25 := hr75 5 (by omega) (by kernel_rfl)
 refine WR.keep [2, 12] (F' := [(2, pt g12 0), (12, .bool (a0.Kind == (1 : Int)))]) (by kernel_rfl) ?_
 refine WR.batch 1 [(2, pt g12 0), (3, .bool (a0.Kind == (1 : Int)))] (by kernel_rfl) ?_
 refine WR.fin (by kernel_rfl) ?_
 refine go hK36 ?_
 refine CW.ret ?_
 exact retC [.agg #[.int .u64 a0.In.Lo, .int .u64 a0.In.Hi], .bool (a0.Kind == (1 : Int))] (.tuple #[.agg #[.int .u64 a0.In.Lo, .int .u64 a0.In.Hi], .bool (a0.Kind == (1 : Int))]) rfl ⟨resCell hp81 rfl (by kernel_rfl), rfl, trivial⟩ (⟨hC78, (congrArg (fun r : (TSpan × Bool) => (.tuple #[.agg #[.int .u64 r.1.Lo, .int .u64 r.1.Hi], .bool r.2] : Value)) hs35).symm⟩)

def kind_Holds (a0 : TKnown) (a1 : Int) (a2 : Int) (a3 : Int)  : Bool := (letF (kind_Right a0) fun x14 => (if (!x14) then false else (if (a0.Kind == (0 : Int)) then true else (if (a0.Kind == (4 : Int)) then (((a1 == (1 : Int)) && (decide (a3 ≥ (0 : Int)))) && (a2 == (IntKind.u64.wrap a3))) else ((a1 == a0.Kind) && (span_Has a0.In a2))))))

set_option maxHeartbeats 4000000 in
theorem kind_Holds_any (a0 : TKnown) (a1 : Int) (a2 : Int) (a3 : Int)   (w : World)  (_h_a0 : (0 ≤ a0.Kind ∧ a0.Kind ≤ 255) ∧ (0 ≤ a0.In.Lo ∧ a0.In.Lo ≤ 18446744073709551615) ∧ (0 ≤ a0.In.Hi ∧ a0.In.Hi ≤ 18446744073709551615)) (_h_a1 : (0 ≤ a1 ∧ a1 ≤ 255)) (_h_a2 : (0 ≤ a2 ∧ a2 ≤ 18446744073709551615)) (_h_a3 : (-9223372036854775808 ≤ a3 ∧ a3 ≤ 9223372036854775807))  : Calls Try.prog 42 #[.agg #[.int .u8 a0.Kind, .int .u64 a0.In.Lo, .int .u64 a0.In.Hi], .int .u8 a1, .int .u64 a2, .int .i64 a3] w (RetV w (.bool (kind_Holds a0 a1 a2 a3))) := by
 have hs := kind_Holds.eq_1 a0 a1 a2 a3
 refine calls_of_CW Try.func42 rfl (n := 43) Try.ntmps42 (by kernel_rfl) [0, 1, 2, 3] (F := [(0, .agg #[.int .u8 a0.Kind, .int .u64 a0.In.Lo, .int .u64 a0.In.Hi]), (1, .int .u8 a1), (2, .int .u64 a2), (3, .int .i64 a3)]) (by kernel_rfl) ?_
 refine CW.seq fun K1 hK1 => ?_
 refine CW.region ?_
 refine WR.box (dst := some 4) (e := 56) (v := .agg #[.int .u8 a0.Kind, .int .u64 a0.In.Lo, .int .u64 a0.In.Hi]) (by kernel_rfl) #[.int .u8 a0.Kind, .int .u64 a0.In.Lo, .int .u64 a0.In.Hi] (by kernel_rfl) ?_
 intro g2 w3 hN4
 have hf6 : w.heap.size ≤ g2 := hN4.fresh
 have hfr8 := hN4.fresh
 have hc7 := hN4.chg
 have hz10 := hc7.size
 have hC9 := (Chg.refl [] w).pure hc7
 have hb5 := hN4.blk
 have hg11 := hb5.lt
 refine WR.batch 1 [(1, .int .u8 a1), (2, .int .u64 a2), (3, .int .i64 a3), (4, pt g2 0)] (by kernel_rfl) ?_
 refine WR.fin (by kernel_rfl) ?_
 refine go hK1 ?_
 refine CW.seq fun K12 hK12 => ?_
 refine CW.block ?_
 refine CW.seq fun K13 hK13 => ?_
 refine CW.region ?_
 refine WR.load (dst := some 10) (t := 56) (o := 0) hb5 (by kernel_rfl) (.agg #[.int .u8 a0.Kind, .int .u64 a0.In.Lo, .int .u64 a0.In.Hi]) (by kernel_rfl) ?_
 obtain ⟨x14, hx15⟩ : ∃ x, kind_Right a0 = x := ⟨_, rfl⟩
 have hs16 := letS hx15 hs
 refine WR.call (dst := some 11) (by kernel_rfl) (retE (g := fun r : Bool => (.bool r : Value)) hx15 (kind_Right_any a0 w3  ⟨(by omega), (by omega), (by omega)⟩ )) ?_
 rintro _ w17 hc18 rfl
 have hz20 := hc18.size
 have hC19 := hC9.pure hc18
 have hb21 := hb5.pure hc18
 refine WR.batch 2 [(1, .int .u8 a1), (2, .int .u64 a2), (3, .int .i64 a3), (4, pt g2 0), (9, .bool (!x14))] (by kernel_rfl) ?_
 refine WR.fin (by kernel_rfl) ?_
 refine go hK13 ?_
 refine CW.cond ((!x14)) (by kernel_rfl) (fun ht22 => ?_) (fun ht22 => ?_)
 ·
  have hs23 := ifT ht22 hs16
  replace ht22 : x14 = false := (bNotT ht22)
  refine CW.seq fun K24 hK24 => ?_
  refine CW.region ?_
  refine WR.batch 1 [(8, .bool false)] (by kernel_rfl) ?_
  refine WR.fin (by kernel_rfl) ?_
  refine go hK24 ?_
  refine CW.ret ?_
  exact retV (.bool false) (by kernel_rfl) (⟨hC19, (congrArg (fun r : Bool => (.bool r : Value)) hs23).symm⟩)
 have hs25 := ifF ht22 hs16
 replace ht22 : x14 = true := (bNotF ht22)
 refine CW.seq fun K26 hK26 => ?_
 refine CW.region ?_
 refine WR.batch 1 [(1, .int .u8 a1), (2, .int .u64 a2), (3, .int .i64 a3), (4, pt g2 0), (14, pt g2 0)] (by kernel_rfl) ?_
 refine WR.load (dst := some 15) (t := 54) (o := 0) hb21 (by kernel_rfl) (.int .u8 a0.Kind) (by kernel_rfl) ?_
 refine WR.batch 2 [(1, .int .u8 a1), (2, .int .u64 a2), (3, .int .i64 a3), (4, pt g2 0), (13, .bool (a0.Kind == (0 : Int)))] (by kernel_rfl) ?_
 refine WR.fin (by kernel_rfl) ?_
 refine go hK26 ?_
 refine CW.cond ((a0.Kind == (0 : Int))) (by kernel_rfl) (fun ht27 => ?_) (fun ht27 => ?_)
 ·
  have hs28 := ifT ht27 hs25
  replace ht27 : a0.Kind = (0 : Int) := (bEqT ht27)
  refine CW.seq fun K29 hK29 => ?_
  refine CW.region ?_
  refine WR.batch 1 [(8, .bool true)] (by kernel_rfl) ?_
  refine WR.fin (by kernel_rfl) ?_
  refine go hK29 ?_
  refine CW.ret ?_
  exact retV (.bool true) (by kernel_rfl) (⟨hC19, (congrArg (fun r : Bool => (.bool r : Value)) hs28).symm⟩)
 have hs30 := ifF ht27 hs25
 replace ht27 : a0.Kind ≠ (0 : Int) := (bEqF ht27)
 refine CW.seq fun K31 hK31 => ?_
 refine CW.region ?_
 refine WR.batch 1 [(1, .int .u8 a1), (2, .int .u64 a2), (3, .int .i64 a3), (4, pt g2 0), (18, pt g2 0)] (by kernel_rfl) ?_
 refine WR.load (dst := some 19) (t := 54) (o := 0) hb21 (by kernel_rfl) (.int .u8 a0.Kind) (by kernel_rfl) ?_
 refine WR.batch 2 [(1, .int .u8 a1), (2, .int .u64 a2), (3, .int .i64 a3), (4, pt g2 0), (17, .bool (a0.Kind == (4 : Int)))] (by kernel_rfl) ?_
 refine WR.fin (by kernel_rfl) ?_
 refine go hK31 ?_
 refine CW.cond ((a0.Kind == (4 : Int))) (by kernel_rfl) (fun ht32 => ?_) (fun ht32 => ?_)
 ·
  have hs33 := ifT ht32 hs30
  replace ht32 : a0.Kind = (4 : Int) := (bEqT ht32)
  refine CW.seq fun K34 hK34 => ?_
  refine CW.region ?_
  refine WR.batch 3 [(2, .int .u64 a2), (3, .int .i64 a3), (23, .bool (a1 == (1 : Int)))] (by kernel_rfl) ?_
  refine WR.batch 3 [(2, .int .u64 a2), (3, .int .i64 a3), (26, .bool ((a1 == (1 : Int)) && (decide (a3 ≥ (0 : Int)))))] (by generalize (a1 == (1 : Int)) = b; cases b <;> kernel_rfl) ?_
  refine WR.batch 1 [(2, .int .u64 a2), (3, .int .i64 a3), (27, .bool ((a1 == (1 : Int)) && (decide (a3 ≥ (0 : Int)))))] (by kernel_rfl) ?_
  refine WR.batch 5 [(32, .bool (((a1 == (1 : Int)) && (decide (a3 ≥ (0 : Int)))) && (a2 == (IntKind.u64.wrap a3))))] (by generalize ((a1 == (1 : Int)) && (decide (a3 ≥ (0 : Int)))) = b; cases b <;> kernel_rfl) ?_
  refine WR.batch 1 [(8, .bool (((a1 == (1 : Int)) && (decide (a3 ≥ (0 : Int)))) && (a2 == (IntKind.u64.wrap a3))))] (by kernel_rfl) ?_
  refine WR.fin (by kernel_rfl) ?_
  refine go hK34 ?_
  refine CW.ret ?_
  exact retV (.bool (((a1 == (1 : Int)) && (decide (a3 ≥ (0 : Int)))) && (a2 == (IntKind.u64.wrap a3)))) (by kernel_rfl) (⟨hC19, (congrArg (fun r : Bool => (.bool r : Value)) hs33).symm⟩)
 have hs35 := ifF ht32 hs30
 replace ht32 : a0.Kind ≠ (4 : Int) := (bEqF ht32)
 refine CW.skip ?_
 refine go hK12 ?_
 refine CW.seq fun K36 hK36 => ?_
 refine CW.region ?_
 refine WR.batch 2 [(2, .int .u64 a2), (4, pt g2 0), (33, .int .u8 a1), (34, pt g2 0)] (by kernel_rfl) ?_
 refine WR.load (dst := some 35) (t := 54) (o := 0) hb21 (by kernel_rfl) (.int .u8 a0.Kind) (by kernel_rfl) ?_
 refine WR.batch 2 [(2, .int .u64 a2), (4, pt g2 0), (37, .bool (a1 == a0.Kind))] (by kernel_rfl) ?_
 refine WR.mergeW 10 [(42, .bool ((a1 == a0.Kind) && (span_Has a0.In a2)))] (fun w' => Chg [] w17 w') (fun Q' => ?_) ?_
 ·
  cases hg37 : (a1 == a0.Kind)
  ·
   replace hg37 : a1 ≠ a0.Kind := (bEqF hg37)
   intro hM38
   refine WR.batch 5 [(42, .bool false)] (by kernel_rfl) ?_
   exact WR.keep [42] (by kernel_rfl) (hM38 _ (Chg.refl [] w17))
  ·
   replace hg37 : a1 = a0.Kind := (bEqT hg37)
   intro hM38
   refine WR.batch 1 [(2, .int .u64 a2), (37, .bool true), (38, pt g2 1)] (by kernel_rfl) ?_
   refine WR.load (dst := some 39) (t := 25) (o := 1) hb21 (by kernel_rfl) (.agg #[.int .u64 a0.In.Lo, .int .u64 a0.In.Hi]) (by kernel_rfl) ?_
   refine WR.batch 1 [(37, .bool true), (39, .agg #[.int .u64 a0.In.Lo, .int .u64 a0.In.Hi]), (40, .int .u64 a2)] (by kernel_rfl) ?_
   refine WR.call (dst := some 41) (by kernel_rfl) (span_Has_any a0.In a2 w17  ⟨(by omega), (by omega)⟩ (by omega) ) ?_
   rintro _ w39 hc40 rfl
   have hz42 := hc40.size
   have hC41 := hC19.pure hc40
   have hb43 := hb21.pure hc40
   refine WR.batch 1 [(42, .bool (span_Has a0.In a2))] (by kernel_rfl) ?_
   exact WR.keep [42] (by kernel_rfl) (hM38 _ ((Chg.refl [] w17).pure hc40))
 intro w44 hc45
 have hz47 := hc45.size
 have hC46 := hC19.pure hc45
 have hb48 := hb21.pure hc45
 refine WR.batch 1 [(8, .bool ((a1 == a0.Kind) && (span_Has a0.In a2)))] (by kernel_rfl) ?_
 refine WR.fin (by kernel_rfl) ?_
 refine go hK36 ?_
 refine CW.ret ?_
 exact retV (.bool ((a1 == a0.Kind) && (span_Has a0.In a2))) (by kernel_rfl) (⟨hC46, (congrArg (fun r : Bool => (.bool r : Value)) hs35).symm⟩)

def kind_Within (a0 : TKnown) (a1 : TKnown)  : Bool := (letF (kind_Right a0) fun x26 => (if ((!x26) || (!(kind_Right a1))) then false else (letF (kind_number a0) fun x54 => (if (a1.Kind == (0 : Int)) then true else (if (a1.Kind == (4 : Int)) then ((a0.Kind == a1.Kind) && ((a0.In.Lo == a1.In.Lo) && (a0.In.Hi == a1.In.Hi))) else (if (a1.Kind == (3 : Int)) then ((a0.Kind == a1.Kind) && ((a0.In.Lo == a1.In.Lo) && (a0.In.Hi == a1.In.Hi))) else (if ((a1.Kind == (1 : Int)) && (a0.Kind == (4 : Int))) then (letF (span_Within x54.1 a1.In) fun x116 => x116) else ((a0.Kind == a1.Kind) && (span_Within a0.In a1.In)))))))))

set_option maxHeartbeats 4000000 in
theorem kind_Within_any (a0 : TKnown) (a1 : TKnown)   (w : World)  (_h_a0 : (0 ≤ a0.Kind ∧ a0.Kind ≤ 255) ∧ (0 ≤ a0.In.Lo ∧ a0.In.Lo ≤ 18446744073709551615) ∧ (0 ≤ a0.In.Hi ∧ a0.In.Hi ≤ 18446744073709551615)) (_h_a1 : (0 ≤ a1.Kind ∧ a1.Kind ≤ 255) ∧ (0 ≤ a1.In.Lo ∧ a1.In.Lo ≤ 18446744073709551615) ∧ (0 ≤ a1.In.Hi ∧ a1.In.Hi ≤ 18446744073709551615))  : Calls Try.prog 44 #[.agg #[.int .u8 a0.Kind, .int .u64 a0.In.Lo, .int .u64 a0.In.Hi], .agg #[.int .u8 a1.Kind, .int .u64 a1.In.Lo, .int .u64 a1.In.Hi]] w (RetV w (.bool (kind_Within a0 a1))) := by
 have hs := kind_Within.eq_1 a0 a1
 refine calls_of_CW Try.func44 rfl (n := 59) Try.ntmps44 (by kernel_rfl) [0, 1] (F := [(0, .agg #[.int .u8 a0.Kind, .int .u64 a0.In.Lo, .int .u64 a0.In.Hi]), (1, .agg #[.int .u8 a1.Kind, .int .u64 a1.In.Lo, .int .u64 a1.In.Hi])]) (by kernel_rfl) ?_
 refine CW.seq fun K1 hK1 => ?_
 refine CW.region ?_
 refine WR.box (dst := some 2) (e := 56) (v := .agg #[.int .u8 a0.Kind, .int .u64 a0.In.Lo, .int .u64 a0.In.Hi]) (by kernel_rfl) #[.int .u8 a0.Kind, .int .u64 a0.In.Lo, .int .u64 a0.In.Hi] (by kernel_rfl) ?_
 intro g2 w3 hN4
 have hf6 : w.heap.size ≤ g2 := hN4.fresh
 have hfr8 := hN4.fresh
 have hc7 := hN4.chg
 have hz10 := hc7.size
 have hC9 := (Chg.refl [] w).pure hc7
 have hb5 := hN4.blk
 have hg11 := hb5.lt
 refine WR.box (dst := some 3) (e := 56) (v := .agg #[.int .u8 a1.Kind, .int .u64 a1.In.Lo, .int .u64 a1.In.Hi]) (by kernel_rfl) #[.int .u8 a1.Kind, .int .u64 a1.In.Lo, .int .u64 a1.In.Hi] (by kernel_rfl) ?_
 intro g12 w13 hN14
 have hl17 : g2 < g12 := Nat.lt_of_lt_of_le hb5.lt hN14.fresh
 have hf16 : w.heap.size ≤ g12 := Nat.le_trans hC9.size hN14.fresh
 have hfr19 := hN14.fresh
 have hc18 := hN14.chg
 have hz21 := hc18.size
 have hC20 := hC9.pure hc18
 have hb22 := hb5.pure hc18
 have hb15 := hN14.blk
 have hg23 := hb15.lt
 refine WR.batch 1 [(2, pt g2 0), (3, pt g12 0)] (by kernel_rfl) ?_
 refine WR.fin (by kernel_rfl) ?_
 refine go hK1 ?_
 refine CW.seq fun K24 hK24 => ?_
 refine CW.seq fun K25 hK25 => ?_
 refine CW.region ?_
 refine WR.load (dst := some 7) (t := 56) (o := 0) hb22 (by kernel_rfl) (.agg #[.int .u8 a0.Kind, .int .u64 a0.In.Lo, .int .u64 a0.In.Hi]) (by kernel_rfl) ?_
 obtain ⟨x26, hx27⟩ : ∃ x, kind_Right a0 = x := ⟨_, rfl⟩
 have hs28 := letS hx27 hs
 refine WR.call (dst := some 8) (by kernel_rfl) (retE (g := fun r : Bool => (.bool r : Value)) hx27 (kind_Right_any a0 w13  ⟨(by omega), (by omega), (by omega)⟩ )) ?_
 rintro _ w29 hc30 rfl
 have hz32 := hc30.size
 have hC31 := hC20.pure hc30
 have hb33 := hb22.pure hc30
 have hb34 := hb15.pure hc30
 refine WR.batch 2 [(2, pt g2 0), (3, pt g12 0), (10, .bool (!x26))] (by kernel_rfl) ?_
 refine WR.mergeW 8 [(2, pt g2 0), (3, pt g12 0), (14, .bool ((!x26) || (!(kind_Right a1))))] (fun w' => Chg [] w29 w') (fun Q' => ?_) ?_
 ·
  cases hg35 : (!x26)
  ·
   replace hg35 : x26 = true := (bNotF hg35)
   intro hM36
   refine WR.load (dst := some 11) (t := 56) (o := 0) hb34 (by kernel_rfl) (.agg #[.int .u8 a1.Kind, .int .u64 a1.In.Lo, .int .u64 a1.In.Hi]) (by kernel_rfl) ?_
   refine WR.call (dst := some 12) (by kernel_rfl) (kind_Right_any a1 w29  ⟨(by omega), (by omega), (by omega)⟩ ) ?_
   rintro _ w37 hc38 rfl
   have hz40 := hc38.size
   have hC39 := hC31.pure hc38
   have hb41 := hb33.pure hc38
   have hb42 := hb34.pure hc38
   refine WR.batch 2 [(2, pt g2 0), (3, pt g12 0), (14, .bool (!(kind_Right a1)))] (by kernel_rfl) ?_
   exact WR.keep [2, 3, 14] (by kernel_rfl) (hM36 _ ((Chg.refl [] w29).pure hc38))
  ·
   replace hg35 : x26 = false := (bNotT hg35)
   intro hM36
   refine WR.batch 4 [(2, pt g2 0), (3, pt g12 0), (14, .bool true)] (by kernel_rfl) ?_
   exact WR.keep [2, 3, 14] (by kernel_rfl) (hM36 _ (Chg.refl [] w29))
 intro w43 hc44
 have hz46 := hc44.size
 have hC45 := hC31.pure hc44
 have hb47 := hb33.pure hc44
 have hb48 := hb34.pure hc44
 refine WR.fin (by kernel_rfl) ?_
 refine go hK25 ?_
 refine CW.cond (((!x26) || (!(kind_Right a1)))) (by kernel_rfl) (fun ht49 => ?_) (fun ht49 => ?_)
 ·
  have hs50 := ifT ht49 hs28
  replace ht49 : (x26 = false) ∨ ((kind_Right a1) = false) := (orMap (bOrT ht49) (fun h => (bNotT h)) (fun h => (bNotT h)))
  refine CW.seq fun K51 hK51 => ?_
  refine CW.region ?_
  refine WR.batch 1 [(4, .bool false)] (by kernel_rfl) ?_
  refine WR.fin (by kernel_rfl) ?_
  refine go hK51 ?_
  refine CW.ret ?_
  exact retV (.bool false) (by kernel_rfl) (⟨hC45, (congrArg (fun r : Bool => (.bool r : Value)) hs50).symm⟩)
 have hs52 := ifF ht49 hs28
 replace ht49 : (x26 = true) ∧ ((kind_Right a1) = true) := ⟨(bNotF (bOrF ht49).1), (bNotF (bOrF ht49).2)⟩
 refine CW.skip ?_
 refine go hK24 ?_
 refine CW.seq fun K53 hK53 => ?_
 refine CW.region ?_
 refine WR.load (dst := some 16) (t := 56) (o := 0) hb47 (by kernel_rfl) (.agg #[.int .u8 a0.Kind, .int .u64 a0.In.Lo, .int .u64 a0.In.Hi]) (by kernel_rfl) ?_
 obtain ⟨x54, hx55⟩ : ∃ x, kind_number a0 = x := ⟨_, rfl⟩
 have hs57 := letS hx55 hs52
 have hx58 : (0 ≤ x54.1.Lo ∧ x54.1.Lo ≤ 18446744073709551615) ∧ (0 ≤ x54.1.Hi ∧ x54.1.Hi ≤ 18446744073709551615) := by rw [← hx55]; exact kind_number_ok a0 ⟨(by omega), (by omega), (by omega)⟩ 
 refine WR.call (dst := some 17) (by kernel_rfl) (retE (g := fun r : (TSpan × Bool) => (.tuple #[.agg #[.int .u64 r.1.Lo, .int .u64 r.1.Hi], .bool r.2] : Value)) hx55 (kind_number_any a0 w43  ⟨(by omega), (by omega), (by omega)⟩ )) ?_
 rintro _ w59 hc60 rfl
 have hz62 := hc60.size
 have hC61 := hC45.pure hc60
 have hb63 := hb47.pure hc60
 have hb64 := hb48.pure hc60
 refine WR.batch 3 [(2, pt g2 0), (3, pt g12 0), (18, .agg #[.int .u64 x54.1.Lo, .int .u64 x54.1.Hi]), (19, .bool x54.2)] (by kernel_rfl) ?_
 refine WR.alloc (dst := some 5) (e := 25) (by kernel_rfl) #[.int .u64 0, .int .u64 0] (by kernel_rfl) ?_
 intro g65 w66 hN67
 have hl70 : g2 < g65 := Nat.lt_of_lt_of_le hb63.lt hN67.fresh
 have hl71 : g12 < g65 := Nat.lt_of_lt_of_le hb64.lt hN67.fresh
 have hf69 : w.heap.size ≤ g65 := Nat.le_trans hC61.size hN67.fresh
 have hfr73 := hN67.fresh
 have hc72 := hN67.chg
 have hz75 := hc72.size
 have hC74 := hC61.pure hc72
 have hb76 := hb63.pure hc72
 have hb77 := hb64.pure hc72
 have hb68 := hN67.blk
 have hg78 := hb68.lt
 refine WR.store (t := 25) (o := 0) (v := .agg #[.int .u64 x54.1.Lo, .int .u64 x54.1.Hi]) hb68 (by kernel_rfl) #[.int .u64 x54.1.Lo, .int .u64 x54.1.Hi] (by kernel_rfl) ?_
 intro w79 hb80 hc81
 have hz83 := hc81.size
 have hC82 := hC74.step1 hc81 (by omega)
 have hb84 := hb76.chg1 hc81 (by omega)
 have hb85 := hb77.chg1 hc81 (by omega)
 refine WR.batch 1 [(2, pt g2 0), (3, pt g12 0), (5, pt g65 0)] (by kernel_rfl) ?_
 refine WR.fin (by kernel_rfl) ?_
 refine go hK53 ?_
 refine CW.seq fun K86 hK86 => ?_
 refine CW.block ?_
 refine CW.seq fun K87 hK87 => ?_
 refine CW.region ?_
 refine WR.batch 1 [(2, pt g2 0), (3, pt g12 0), (5, pt g65 0), (21, pt g12 0)] (by kernel_rfl) ?_
 refine WR.load (dst := some 22) (t := 54) (o := 0) hb85 (by kernel_rfl) (.int .u8 a1.Kind) (by kernel_rfl) ?_
 refine WR.batch 2 [(2, pt g2 0), (3, pt g12 0), (5, pt g65 0), (20, .bool (a1.Kind == (0 : Int)))] (by kernel_rfl) ?_
 refine WR.fin (by kernel_rfl) ?_
 refine go hK87 ?_
 refine CW.cond ((a1.Kind == (0 : Int))) (by kernel_rfl) (fun ht88 => ?_) (fun ht88 => ?_)
 ·
  have hs89 := ifT ht88 hs57
  replace ht88 : a1.Kind = (0 : Int) := (bEqT ht88)
  refine CW.seq fun K90 hK90 => ?_
  refine CW.region ?_
  refine WR.batch 1 [(4, .bool true)] (by kernel_rfl) ?_
  refine WR.fin (by kernel_rfl) ?_
  refine go hK90 ?_
  refine CW.ret ?_
  exact retV (.bool true) (by kernel_rfl) (⟨hC82, (congrArg (fun r : Bool => (.bool r : Value)) hs89).symm⟩)
 have hs91 := ifF ht88 hs57
 replace ht88 : a1.Kind ≠ (0 : Int) := (bEqF ht88)
 refine CW.seq fun K92 hK92 => ?_
 refine CW.seq fun K93 hK93 => ?_
 refine CW.region ?_
 refine WR.batch 1 [(2, pt g2 0), (3, pt g12 0), (5, pt g65 0), (25, pt g12 0)] (by kernel_rfl) ?_
 refine WR.load (dst := some 26) (t := 54) (o := 0) hb85 (by kernel_rfl) (.int .u8 a1.Kind) (by kernel_rfl) ?_
 refine WR.batch 2 [(2, pt g2 0), (3, pt g12 0), (5, pt g65 0), (24, .bool (a1.Kind == (4 : Int)))] (by kernel_rfl) ?_
 refine WR.fin (by kernel_rfl) ?_
 refine go hK93 ?_
 refine CW.cond ((a1.Kind == (4 : Int))) (by kernel_rfl) (fun ht94 => ?_) (fun ht94 => ?_)
 ·
  have hs95 := ifT ht94 hs91
  refine CW.keep [2, 3, 5, 24] (F' := [(2, pt g2 0), (3, pt g12 0), (5, pt g65 0), (24, .bool (a1.Kind == (4 : Int)))]) (by kernel_rfl) ?_
  refine CW.eqF (F' := [(2, pt g2 0), (3, pt g12 0), (5, pt g65 0), (24, .bool true)]) (by rw [ht94]) ?_
  have hk96 := ht94
  replace ht94 : a1.Kind = (4 : Int) := (bEqT ht94)
  refine CW.skip ?_
  refine go hK92 ?_
  refine CW.yes (by kernel_rfl) ?_
  refine CW.seq fun K97 hK97 => ?_
  refine CW.region ?_
  refine WR.load (dst := some 31) (t := 56) (o := 0) hb84 (by kernel_rfl) (.agg #[.int .u8 a0.Kind, .int .u64 a0.In.Lo, .int .u64 a0.In.Hi]) (by kernel_rfl) ?_
  refine WR.load (dst := some 32) (t := 56) (o := 0) hb85 (by kernel_rfl) (.agg #[.int .u8 a1.Kind, .int .u64 a1.In.Lo, .int .u64 a1.In.Hi]) (by kernel_rfl) ?_
  refine WR.valR (dst := some 33) (v := .bool ((a0.Kind == a1.Kind) && ((a0.In.Lo == a1.In.Lo) && (a0.In.Hi == a1.In.Hi)))) (w' := w79) (run_eqS (t := 56) (xs := #[.int .u8 a0.Kind, .int .u64 a0.In.Lo, .int .u64 a0.In.Hi]) (ys := #[.int .u8 a1.Kind, .int .u64 a1.In.Lo, .int .u64 a1.In.Hi]) (neg := false) (b := ((a0.Kind == a1.Kind) && ((a0.In.Lo == a1.In.Lo) && (a0.In.Hi == a1.In.Hi)))) (by kernel_rfl) (by kernel_rfl) (by kernel_rfl) w79) ?_
  refine WR.batch 1 [(4, .bool ((a0.Kind == a1.Kind) && ((a0.In.Lo == a1.In.Lo) && (a0.In.Hi == a1.In.Hi))))] (by kernel_rfl) ?_
  refine WR.fin (by kernel_rfl) ?_
  refine go hK97 ?_
  refine CW.ret ?_
  exact retV (.bool ((a0.Kind == a1.Kind) && ((a0.In.Lo == a1.In.Lo) && (a0.In.Hi == a1.In.Hi)))) (by kernel_rfl) (⟨hC82, (congrArg (fun r : Bool => (.bool r : Value)) hs95).symm⟩)
 have hs98 := ifF ht94 hs91
 replace ht94 : a1.Kind ≠ (4 : Int) := (bEqF ht94)
 refine CW.region ?_
 refine WR.batch 1 [(2, pt g2 0), (3, pt g12 0), (5, pt g65 0), (28, pt g12 0)] (by kernel_rfl) ?_
 refine WR.load (dst := some 29) (t := 54) (o := 0) hb85 (by kernel_rfl) (.int .u8 a1.Kind) (by kernel_rfl) ?_
 refine WR.batch 2 [(2, pt g2 0), (3, pt g12 0), (5, pt g65 0), (24, .bool (a1.Kind == (3 : Int)))] (by kernel_rfl) ?_
 refine WR.fin (by kernel_rfl) ?_
 refine go hK92 ?_
 refine CW.cond ((a1.Kind == (3 : Int))) (by kernel_rfl) (fun ht99 => ?_) (fun ht99 => ?_)
 ·
  have hs100 := ifT ht99 hs98
  replace ht99 : a1.Kind = (3 : Int) := (bEqT ht99)
  refine CW.seq fun K101 hK101 => ?_
  refine CW.region ?_
  refine WR.load (dst := some 31) (t := 56) (o := 0) hb84 (by kernel_rfl) (.agg #[.int .u8 a0.Kind, .int .u64 a0.In.Lo, .int .u64 a0.In.Hi]) (by kernel_rfl) ?_
  refine WR.load (dst := some 32) (t := 56) (o := 0) hb85 (by kernel_rfl) (.agg #[.int .u8 a1.Kind, .int .u64 a1.In.Lo, .int .u64 a1.In.Hi]) (by kernel_rfl) ?_
  refine WR.valR (dst := some 33) (v := .bool ((a0.Kind == a1.Kind) && ((a0.In.Lo == a1.In.Lo) && (a0.In.Hi == a1.In.Hi)))) (w' := w79) (run_eqS (t := 56) (xs := #[.int .u8 a0.Kind, .int .u64 a0.In.Lo, .int .u64 a0.In.Hi]) (ys := #[.int .u8 a1.Kind, .int .u64 a1.In.Lo, .int .u64 a1.In.Hi]) (neg := false) (b := ((a0.Kind == a1.Kind) && ((a0.In.Lo == a1.In.Lo) && (a0.In.Hi == a1.In.Hi)))) (by kernel_rfl) (by kernel_rfl) (by kernel_rfl) w79) ?_
  refine WR.batch 1 [(4, .bool ((a0.Kind == a1.Kind) && ((a0.In.Lo == a1.In.Lo) && (a0.In.Hi == a1.In.Hi))))] (by kernel_rfl) ?_
  refine WR.fin (by kernel_rfl) ?_
  refine go hK101 ?_
  refine CW.ret ?_
  exact retV (.bool ((a0.Kind == a1.Kind) && ((a0.In.Lo == a1.In.Lo) && (a0.In.Hi == a1.In.Hi)))) (by kernel_rfl) (⟨hC82, (congrArg (fun r : Bool => (.bool r : Value)) hs100).symm⟩)
 have hs102 := ifF ht99 hs98
 replace ht99 : a1.Kind ≠ (3 : Int) := (bEqF ht99)
 refine CW.seq fun K103 hK103 => ?_
 refine CW.region ?_
 refine WR.batch 1 [(2, pt g2 0), (3, pt g12 0), (5, pt g65 0), (35, pt g12 0)] (by kernel_rfl) ?_
 refine WR.load (dst := some 36) (t := 54) (o := 0) hb85 (by kernel_rfl) (.int .u8 a1.Kind) (by kernel_rfl) ?_
 refine WR.batch 2 [(2, pt g2 0), (3, pt g12 0), (5, pt g65 0), (38, .bool (a1.Kind == (1 : Int)))] (by kernel_rfl) ?_
 refine WR.mergeW 8 [(2, pt g2 0), (3, pt g12 0), (5, pt g65 0), (42, .bool ((a1.Kind == (1 : Int)) && (a0.Kind == (4 : Int))))] (fun w' => Chg [] w79 w') (fun Q' => ?_) ?_
 ·
  cases hg104 : (a1.Kind == (1 : Int))
  ·
   replace hg104 : a1.Kind ≠ (1 : Int) := (bEqF hg104)
   intro hM105
   refine WR.batch 4 [(2, pt g2 0), (3, pt g12 0), (5, pt g65 0), (42, .bool false)] (by kernel_rfl) ?_
   exact WR.keep [2, 3, 5, 42] (by kernel_rfl) (hM105 _ (Chg.refl [] w79))
  ·
   replace hg104 : a1.Kind = (1 : Int) := (bEqT hg104)
   intro hM105
   refine WR.batch 1 [(2, pt g2 0), (3, pt g12 0), (5, pt g65 0), (38, .bool true), (39, pt g2 0)] (by kernel_rfl) ?_
   refine WR.load (dst := some 40) (t := 54) (o := 0) hb84 (by kernel_rfl) (.int .u8 a0.Kind) (by kernel_rfl) ?_
   refine WR.batch 2 [(2, pt g2 0), (3, pt g12 0), (5, pt g65 0), (42, .bool (a0.Kind == (4 : Int)))] (by kernel_rfl) ?_
   exact WR.keep [2, 3, 5, 42] (by kernel_rfl) (hM105 _ (Chg.refl [] w79))
 intro w106 hc107
 have hz109 := hc107.size
 have hC108 := hC82.pure hc107
 have hb110 := hb84.pure hc107
 have hb111 := hb85.pure hc107
 have hb112 := hb80.pure hc107
 refine WR.batch 1 [(2, pt g2 0), (3, pt g12 0), (5, pt g65 0), (34, .bool ((a1.Kind == (1 : Int)) && (a0.Kind == (4 : Int))))] (by kernel_rfl) ?_
 refine WR.fin (by kernel_rfl) ?_
 refine go hK103 ?_
 refine CW.cond (((a1.Kind == (1 : Int)) && (a0.Kind == (4 : Int)))) (by kernel_rfl) (fun ht113 => ?_) (fun ht113 => ?_)
 ·
  have hs114 := ifT ht113 hs102
  replace ht113 : (a1.Kind = (1 : Int)) ∧ (a0.Kind = (4 : Int)) := ⟨(bEqT (bAndT ht113).1), (bEqT (bAndT ht113).2)⟩
  refine CW.seq fun K115 hK115 => ?_
  refine CW.region ?_
  refine WR.load (dst := some 43) (t := 25) (o := 0) hb112 (by kernel_rfl) (.agg #[.int .u64 x54.1.Lo, .int .u64 x54.1.Hi]) (by kernel_rfl) ?_
  refine WR.batch 1 [(43, .agg #[.int .u64 x54.1.Lo, .int .u64 x54.1.Hi]), (44, pt g12 1)] (by kernel_rfl) ?_
  refine WR.load (dst := some 45) (t := 25) (o := 1) hb111 (by kernel_rfl) (.agg #[.int .u64 a1.In.Lo, .int .u64 a1.In.Hi]) (by kernel_rfl) ?_
  obtain ⟨x116, hx117⟩ : ∃ x, span_Within x54.1 a1.In = x := ⟨_, rfl⟩
  have hs118 := letS hx117 hs114
  refine WR.call (dst := some 46) (by kernel_rfl) (retE (g := fun r : Bool => (.bool r : Value)) hx117 (span_Within_any x54.1 a1.In w106  ⟨(by omega), (by omega)⟩ ⟨(by omega), (by omega)⟩ )) ?_
  rintro _ w119 hc120 rfl
  have hz122 := hc120.size
  have hC121 := hC108.pure hc120
  have hb123 := hb110.pure hc120
  have hb124 := hb111.pure hc120
  have hb125 := hb112.pure hc120
  refine WR.batch 1 [(4, .bool x116)] (by kernel_rfl) ?_
  refine WR.fin (by kernel_rfl) ?_
  refine go hK115 ?_
  refine CW.ret ?_
  exact retV (.bool x116) (by kernel_rfl) (⟨hC121, (congrArg (fun r : Bool => (.bool r : Value)) hs118).symm⟩)
 have hs126 := ifF ht113 hs102
 replace ht113 : (a1.Kind ≠ (1 : Int)) ∨ (a0.Kind ≠ (4 : Int)) := (orMap (bAndF ht113) (fun h => (bEqF h)) (fun h => (bEqF h)))
 refine CW.skip ?_
 refine go hK86 ?_
 refine CW.seq fun K127 hK127 => ?_
 refine CW.region ?_
 refine WR.batch 1 [(2, pt g2 0), (3, pt g12 0), (47, pt g2 0)] (by kernel_rfl) ?_
 refine WR.load (dst := some 48) (t := 54) (o := 0) hb110 (by kernel_rfl) (.int .u8 a0.Kind) (by kernel_rfl) ?_
 refine WR.batch 1 [(2, pt g2 0), (3, pt g12 0), (48, .int .u8 a0.Kind), (49, pt g12 0)] (by kernel_rfl) ?_
 refine WR.load (dst := some 50) (t := 54) (o := 0) hb111 (by kernel_rfl) (.int .u8 a1.Kind) (by kernel_rfl) ?_
 refine WR.batch 2 [(2, pt g2 0), (3, pt g12 0), (52, .bool (a0.Kind == a1.Kind))] (by kernel_rfl) ?_
 refine WR.mergeW 12 [(58, .bool ((a0.Kind == a1.Kind) && (span_Within a0.In a1.In)))] (fun w' => Chg [] w106 w') (fun Q' => ?_) ?_
 ·
  cases hg128 : (a0.Kind == a1.Kind)
  ·
   replace hg128 : a0.Kind ≠ a1.Kind := (bEqF hg128)
   intro hM129
   refine WR.batch 6 [(58, .bool false)] (by kernel_rfl) ?_
   exact WR.keep [58] (by kernel_rfl) (hM129 _ (Chg.refl [] w106))
  ·
   replace hg128 : a0.Kind = a1.Kind := (bEqT hg128)
   intro hM129
   refine WR.batch 1 [(3, pt g12 0), (52, .bool true), (53, pt g2 1)] (by kernel_rfl) ?_
   refine WR.load (dst := some 54) (t := 25) (o := 1) hb110 (by kernel_rfl) (.agg #[.int .u64 a0.In.Lo, .int .u64 a0.In.Hi]) (by kernel_rfl) ?_
   refine WR.batch 1 [(52, .bool true), (54, .agg #[.int .u64 a0.In.Lo, .int .u64 a0.In.Hi]), (55, pt g12 1)] (by kernel_rfl) ?_
   refine WR.load (dst := some 56) (t := 25) (o := 1) hb111 (by kernel_rfl) (.agg #[.int .u64 a1.In.Lo, .int .u64 a1.In.Hi]) (by kernel_rfl) ?_
   refine WR.call (dst := some 57) (by kernel_rfl) (span_Within_any a0.In a1.In w106  ⟨(by omega), (by omega)⟩ ⟨(by omega), (by omega)⟩ ) ?_
   rintro _ w130 hc131 rfl
   have hz133 := hc131.size
   have hC132 := hC108.pure hc131
   have hb134 := hb110.pure hc131
   have hb135 := hb111.pure hc131
   have hb136 := hb112.pure hc131
   refine WR.batch 1 [(58, .bool (span_Within a0.In a1.In))] (by kernel_rfl) ?_
   exact WR.keep [58] (by kernel_rfl) (hM129 _ ((Chg.refl [] w106).pure hc131))
 intro w137 hc138
 have hz140 := hc138.size
 have hC139 := hC108.pure hc138
 have hb141 := hb110.pure hc138
 have hb142 := hb111.pure hc138
 have hb143 := hb112.pure hc138
 refine WR.batch 1 [(4, .bool ((a0.Kind == a1.Kind) && (span_Within a0.In a1.In)))] (by kernel_rfl) ?_
 refine WR.fin (by kernel_rfl) ?_
 refine go hK127 ?_
 refine CW.ret ?_
 exact retV (.bool ((a0.Kind == a1.Kind) && (span_Within a0.In a1.In))) (by kernel_rfl) (⟨hC139, (congrArg (fun r : Bool => (.bool r : Value)) hs126).symm⟩)

def kind_Join (a0 : TKnown) (a1 : TKnown)  : TKnown := (letF (kind_number a0) fun x39 => (letF (kind_number a1) fun x76 => (letF (kind_Right a0) fun x118 => (if ((!x118) || (!(kind_Right a1))) then (⟨(0 : Int), (⟨(0 : Int), (0 : Int)⟩ : TSpan)⟩ : TKnown) else (if ((a0.Kind == a1.Kind) && ((a0.In.Lo == a1.In.Lo) && (a0.In.Hi == a1.In.Hi))) then a0 else (if (x39.2 && x76.2) then (letF (span_Join x39.1 x76.1) fun x181 => (⟨(1 : Int), x181⟩ : TKnown)) else (if ((a0.Kind == (2 : Int)) && (a1.Kind == (2 : Int))) then (letF (span_Join a0.In a1.In) fun x220 => (⟨(2 : Int), x220⟩ : TKnown)) else (⟨(0 : Int), (⟨(0 : Int), (0 : Int)⟩ : TSpan)⟩ : TKnown))))))))

theorem kind_Join_ok (a0 : TKnown) (a1 : TKnown)  (_h_a0 : (0 ≤ a0.Kind ∧ a0.Kind ≤ 255) ∧ (0 ≤ a0.In.Lo ∧ a0.In.Lo ≤ 18446744073709551615) ∧ (0 ≤ a0.In.Hi ∧ a0.In.Hi ≤ 18446744073709551615)) (_h_a1 : (0 ≤ a1.Kind ∧ a1.Kind ≤ 255) ∧ (0 ≤ a1.In.Lo ∧ a1.In.Lo ≤ 18446744073709551615) ∧ (0 ≤ a1.In.Hi ∧ a1.In.Hi ≤ 18446744073709551615))  : (0 ≤ (kind_Join a0 a1).Kind ∧ (kind_Join a0 a1).Kind ≤ 255) ∧ (0 ≤ (kind_Join a0 a1).In.Lo ∧ (kind_Join a0 a1).In.Lo ≤ 18446744073709551615) ∧ (0 ≤ (kind_Join a0 a1).In.Hi ∧ (kind_Join a0 a1).In.Hi ≤ 18446744073709551615) := by
 rw [kind_Join.eq_1]
 refine letR (p := fun r : TKnown => (0 ≤ r.Kind ∧ r.Kind ≤ 255) ∧ (0 ≤ r.In.Lo ∧ r.In.Lo ≤ 18446744073709551615) ∧ (0 ≤ r.In.Hi ∧ r.In.Hi ≤ 18446744073709551615)) fun x39 hx40 => ?_
 have hx41 : (0 ≤ x39.1.Lo ∧ x39.1.Lo ≤ 18446744073709551615) ∧ (0 ≤ x39.1.Hi ∧ x39.1.Hi ≤ 18446744073709551615) := by rw [← hx40]; exact kind_number_ok a0 ⟨(by omega), (by omega), (by omega)⟩ 
 refine letR (p := fun r : TKnown => (0 ≤ r.Kind ∧ r.Kind ≤ 255) ∧ (0 ≤ r.In.Lo ∧ r.In.Lo ≤ 18446744073709551615) ∧ (0 ≤ r.In.Hi ∧ r.In.Hi ≤ 18446744073709551615)) fun x76 hx77 => ?_
 have hx78 : (0 ≤ x76.1.Lo ∧ x76.1.Lo ≤ 18446744073709551615) ∧ (0 ≤ x76.1.Hi ∧ x76.1.Hi ≤ 18446744073709551615) := by rw [← hx77]; exact kind_number_ok a1 ⟨(by omega), (by omega), (by omega)⟩ 
 refine letR (p := fun r : TKnown => (0 ≤ r.Kind ∧ r.Kind ≤ 255) ∧ (0 ≤ r.In.Lo ∧ r.In.Lo ≤ 18446744073709551615) ∧ (0 ≤ r.In.Hi ∧ r.In.Hi ≤ 18446744073709551615)) fun x118 _ => ?_
 refine iteR (p := fun r : TKnown => (0 ≤ r.Kind ∧ r.Kind ≤ 255) ∧ (0 ≤ r.In.Lo ∧ r.In.Lo ≤ 18446744073709551615) ∧ (0 ≤ r.In.Hi ∧ r.In.Hi ≤ 18446744073709551615)) (fun hi1001 => ?_) (fun hi1001 => ?_)
 ·
  replace hi1001 : (x118 = false) ∨ ((kind_Right a1) = false) := (orMap (bOrT hi1001) (fun h => (bNotT h)) (fun h => (bNotT h)))
  exact (by exact (show (0 ≤ (0 : Int) ∧ (0 : Int) ≤ 255) ∧ (0 ≤ (0 : Int) ∧ (0 : Int) ≤ 18446744073709551615) ∧ (0 ≤ (0 : Int) ∧ (0 : Int) ≤ 18446744073709551615) from ⟨(by omega), (by omega), (by omega)⟩))
 replace hi1001 : (x118 = true) ∧ ((kind_Right a1) = true) := ⟨(bNotF (bOrF hi1001).1), (bNotF (bOrF hi1001).2)⟩
 refine iteR (p := fun r : TKnown => (0 ≤ r.Kind ∧ r.Kind ≤ 255) ∧ (0 ≤ r.In.Lo ∧ r.In.Lo ≤ 18446744073709551615) ∧ (0 ≤ r.In.Hi ∧ r.In.Hi ≤ 18446744073709551615)) (fun hi1002 => ?_) (fun hi1002 => ?_)
 ·
  replace hi1002 : (a0.Kind = a1.Kind) ∧ ((a0.In.Lo = a1.In.Lo) ∧ (a0.In.Hi = a1.In.Hi)) := ⟨(bEqT (bAndT hi1002).1), ⟨(bEqT (bAndT (bAndT hi1002).2).1), (bEqT (bAndT (bAndT hi1002).2).2)⟩⟩
  exact (by exact (show (0 ≤ a0.Kind ∧ a0.Kind ≤ 255) ∧ (0 ≤ a0.In.Lo ∧ a0.In.Lo ≤ 18446744073709551615) ∧ (0 ≤ a0.In.Hi ∧ a0.In.Hi ≤ 18446744073709551615) from ⟨(by omega), (by omega), (by omega)⟩))
 replace hi1002 : (a0.Kind ≠ a1.Kind) ∨ ((a0.In.Lo ≠ a1.In.Lo) ∨ (a0.In.Hi ≠ a1.In.Hi)) := (orMap (bAndF hi1002) (fun h => (bEqF h)) (fun h => (orMap (bAndF h) (fun h => (bEqF h)) (fun h => (bEqF h)))))
 refine iteR (p := fun r : TKnown => (0 ≤ r.Kind ∧ r.Kind ≤ 255) ∧ (0 ≤ r.In.Lo ∧ r.In.Lo ≤ 18446744073709551615) ∧ (0 ≤ r.In.Hi ∧ r.In.Hi ≤ 18446744073709551615)) (fun hi1003 => ?_) (fun hi1003 => ?_)
 ·
  replace hi1003 : (x39.2 = true) ∧ (x76.2 = true) := ⟨(bAndT hi1003).1, (bAndT hi1003).2⟩
  refine letR (p := fun r : TKnown => (0 ≤ r.Kind ∧ r.Kind ≤ 255) ∧ (0 ≤ r.In.Lo ∧ r.In.Lo ≤ 18446744073709551615) ∧ (0 ≤ r.In.Hi ∧ r.In.Hi ≤ 18446744073709551615)) fun x181 hx182 => ?_
  have hx183 : (0 ≤ x181.Lo ∧ x181.Lo ≤ 18446744073709551615) ∧ (0 ≤ x181.Hi ∧ x181.Hi ≤ 18446744073709551615) := by rw [← hx182]; exact span_Join_ok x39.1 x76.1 ⟨(by omega), (by omega)⟩ ⟨(by omega), (by omega)⟩ 
  exact (by exact (show (0 ≤ (1 : Int) ∧ (1 : Int) ≤ 255) ∧ (0 ≤ x181.Lo ∧ x181.Lo ≤ 18446744073709551615) ∧ (0 ≤ x181.Hi ∧ x181.Hi ≤ 18446744073709551615) from ⟨(by omega), (by omega), (by omega)⟩))
 replace hi1003 : (x39.2 = false) ∨ (x76.2 = false) := (orMap (bAndF hi1003) (fun h => h) (fun h => h))
 refine iteR (p := fun r : TKnown => (0 ≤ r.Kind ∧ r.Kind ≤ 255) ∧ (0 ≤ r.In.Lo ∧ r.In.Lo ≤ 18446744073709551615) ∧ (0 ≤ r.In.Hi ∧ r.In.Hi ≤ 18446744073709551615)) (fun hi1004 => ?_) (fun hi1004 => ?_)
 ·
  replace hi1004 : (a0.Kind = (2 : Int)) ∧ (a1.Kind = (2 : Int)) := ⟨(bEqT (bAndT hi1004).1), (bEqT (bAndT hi1004).2)⟩
  refine letR (p := fun r : TKnown => (0 ≤ r.Kind ∧ r.Kind ≤ 255) ∧ (0 ≤ r.In.Lo ∧ r.In.Lo ≤ 18446744073709551615) ∧ (0 ≤ r.In.Hi ∧ r.In.Hi ≤ 18446744073709551615)) fun x220 hx221 => ?_
  have hx222 : (0 ≤ x220.Lo ∧ x220.Lo ≤ 18446744073709551615) ∧ (0 ≤ x220.Hi ∧ x220.Hi ≤ 18446744073709551615) := by rw [← hx221]; exact span_Join_ok a0.In a1.In ⟨(by omega), (by omega)⟩ ⟨(by omega), (by omega)⟩ 
  exact (by exact (show (0 ≤ (2 : Int) ∧ (2 : Int) ≤ 255) ∧ (0 ≤ x220.Lo ∧ x220.Lo ≤ 18446744073709551615) ∧ (0 ≤ x220.Hi ∧ x220.Hi ≤ 18446744073709551615) from ⟨(by omega), (by omega), (by omega)⟩))
 replace hi1004 : (a0.Kind ≠ (2 : Int)) ∨ (a1.Kind ≠ (2 : Int)) := (orMap (bAndF hi1004) (fun h => (bEqF h)) (fun h => (bEqF h)))
 exact (by exact (show (0 ≤ (0 : Int) ∧ (0 : Int) ≤ 255) ∧ (0 ≤ (0 : Int) ∧ (0 : Int) ≤ 18446744073709551615) ∧ (0 ≤ (0 : Int) ∧ (0 : Int) ≤ 18446744073709551615) from ⟨(by omega), (by omega), (by omega)⟩))

set_option maxHeartbeats 4000000 in
theorem kind_Join_any (a0 : TKnown) (a1 : TKnown)   (w : World)  (_h_a0 : (0 ≤ a0.Kind ∧ a0.Kind ≤ 255) ∧ (0 ≤ a0.In.Lo ∧ a0.In.Lo ≤ 18446744073709551615) ∧ (0 ≤ a0.In.Hi ∧ a0.In.Hi ≤ 18446744073709551615)) (_h_a1 : (0 ≤ a1.Kind ∧ a1.Kind ≤ 255) ∧ (0 ≤ a1.In.Lo ∧ a1.In.Lo ≤ 18446744073709551615) ∧ (0 ≤ a1.In.Hi ∧ a1.In.Hi ≤ 18446744073709551615))  : Calls Try.prog 46 #[.agg #[.int .u8 a0.Kind, .int .u64 a0.In.Lo, .int .u64 a0.In.Hi], .agg #[.int .u8 a1.Kind, .int .u64 a1.In.Lo, .int .u64 a1.In.Hi]] w (RetV w (.agg #[.int .u8 (kind_Join a0 a1).Kind, .int .u64 (kind_Join a0 a1).In.Lo, .int .u64 (kind_Join a0 a1).In.Hi])) := by
 have hs := kind_Join.eq_1 a0 a1
 refine calls_of_CW Try.func46 rfl (n := 59) Try.ntmps46 (by kernel_rfl) [0, 1] (F := [(0, .agg #[.int .u8 a0.Kind, .int .u64 a0.In.Lo, .int .u64 a0.In.Hi]), (1, .agg #[.int .u8 a1.Kind, .int .u64 a1.In.Lo, .int .u64 a1.In.Hi])]) (by kernel_rfl) ?_
 refine CW.seq fun K1 hK1 => ?_
 refine CW.region ?_
 refine WR.box (dst := some 2) (e := 56) (v := .agg #[.int .u8 a0.Kind, .int .u64 a0.In.Lo, .int .u64 a0.In.Hi]) (by kernel_rfl) #[.int .u8 a0.Kind, .int .u64 a0.In.Lo, .int .u64 a0.In.Hi] (by kernel_rfl) ?_
 intro g2 w3 hN4
 have hf6 : w.heap.size ≤ g2 := hN4.fresh
 have hfr8 := hN4.fresh
 have hc7 := hN4.chg
 have hz10 := hc7.size
 have hC9 := (Chg.refl [] w).pure hc7
 have hb5 := hN4.blk
 have hg11 := hb5.lt
 refine WR.box (dst := some 3) (e := 56) (v := .agg #[.int .u8 a1.Kind, .int .u64 a1.In.Lo, .int .u64 a1.In.Hi]) (by kernel_rfl) #[.int .u8 a1.Kind, .int .u64 a1.In.Lo, .int .u64 a1.In.Hi] (by kernel_rfl) ?_
 intro g12 w13 hN14
 have hl17 : g2 < g12 := Nat.lt_of_lt_of_le hb5.lt hN14.fresh
 have hf16 : w.heap.size ≤ g12 := Nat.le_trans hC9.size hN14.fresh
 have hfr19 := hN14.fresh
 have hc18 := hN14.chg
 have hz21 := hc18.size
 have hC20 := hC9.pure hc18
 have hb22 := hb5.pure hc18
 have hb15 := hN14.blk
 have hg23 := hb15.lt
 refine WR.alloc (dst := some 4) (e := 56) (by kernel_rfl) #[.int .u8 0, .int .u64 0, .int .u64 0] (by kernel_rfl) ?_
 intro g24 w25 hN26
 have hl29 : g2 < g24 := Nat.lt_of_lt_of_le hb22.lt hN26.fresh
 have hl30 : g12 < g24 := Nat.lt_of_lt_of_le hb15.lt hN26.fresh
 have hf28 : w.heap.size ≤ g24 := Nat.le_trans hC20.size hN26.fresh
 have hfr32 := hN26.fresh
 have hc31 := hN26.chg
 have hz34 := hc31.size
 have hC33 := hC20.pure hc31
 have hb35 := hb22.pure hc31
 have hb36 := hb15.pure hc31
 have hb27 := hN26.blk
 have hg37 := hb27.lt
 refine WR.fin (by kernel_rfl) ?_
 refine go hK1 ?_
 refine CW.seq fun K38 hK38 => ?_
 refine CW.region ?_
 refine WR.load (dst := some 10) (t := 56) (o := 0) hb35 (by kernel_rfl) (.agg #[.int .u8 a0.Kind, .int .u64 a0.In.Lo, .int .u64 a0.In.Hi]) (by kernel_rfl) ?_
 obtain ⟨x39, hx40⟩ : ∃ x, kind_number a0 = x := ⟨_, rfl⟩
 have hs42 := letS hx40 hs
 have hx43 : (0 ≤ x39.1.Lo ∧ x39.1.Lo ≤ 18446744073709551615) ∧ (0 ≤ x39.1.Hi ∧ x39.1.Hi ≤ 18446744073709551615) := by rw [← hx40]; exact kind_number_ok a0 ⟨(by omega), (by omega), (by omega)⟩ 
 refine WR.call (dst := some 11) (by kernel_rfl) (retE (g := fun r : (TSpan × Bool) => (.tuple #[.agg #[.int .u64 r.1.Lo, .int .u64 r.1.Hi], .bool r.2] : Value)) hx40 (kind_number_any a0 w25  ⟨(by omega), (by omega), (by omega)⟩ )) ?_
 rintro _ w44 hc45 rfl
 have hz47 := hc45.size
 have hC46 := hC33.pure hc45
 have hb48 := hb35.pure hc45
 have hb49 := hb36.pure hc45
 have hb50 := hb27.pure hc45
 refine WR.batch 3 [(2, pt g2 0), (3, pt g12 0), (4, pt g24 0), (12, .agg #[.int .u64 x39.1.Lo, .int .u64 x39.1.Hi]), (13, .bool x39.2)] (by kernel_rfl) ?_
 refine WR.alloc (dst := some 5) (e := 25) (by kernel_rfl) #[.int .u64 0, .int .u64 0] (by kernel_rfl) ?_
 intro g51 w52 hN53
 have hl56 : g2 < g51 := Nat.lt_of_lt_of_le hb48.lt hN53.fresh
 have hl57 : g12 < g51 := Nat.lt_of_lt_of_le hb49.lt hN53.fresh
 have hl58 : g24 < g51 := Nat.lt_of_lt_of_le hb50.lt hN53.fresh
 have hf55 : w.heap.size ≤ g51 := Nat.le_trans hC46.size hN53.fresh
 have hfr60 := hN53.fresh
 have hc59 := hN53.chg
 have hz62 := hc59.size
 have hC61 := hC46.pure hc59
 have hb63 := hb48.pure hc59
 have hb64 := hb49.pure hc59
 have hb65 := hb50.pure hc59
 have hb54 := hN53.blk
 have hg66 := hb54.lt
 refine WR.store (t := 25) (o := 0) (v := .agg #[.int .u64 x39.1.Lo, .int .u64 x39.1.Hi]) hb54 (by kernel_rfl) #[.int .u64 x39.1.Lo, .int .u64 x39.1.Hi] (by kernel_rfl) ?_
 intro w67 hb68 hc69
 have hz71 := hc69.size
 have hC70 := hC61.step1 hc69 (by omega)
 have hb72 := hb63.chg1 hc69 (by omega)
 have hb73 := hb64.chg1 hc69 (by omega)
 have hb74 := hb65.chg1 hc69 (by omega)
 refine WR.batch 1 [(2, pt g2 0), (3, pt g12 0), (4, pt g24 0), (5, pt g51 0), (6, .bool x39.2)] (by kernel_rfl) ?_
 refine WR.fin (by kernel_rfl) ?_
 refine go hK38 ?_
 refine CW.seq fun K75 hK75 => ?_
 refine CW.region ?_
 refine WR.load (dst := some 15) (t := 56) (o := 0) hb73 (by kernel_rfl) (.agg #[.int .u8 a1.Kind, .int .u64 a1.In.Lo, .int .u64 a1.In.Hi]) (by kernel_rfl) ?_
 obtain ⟨x76, hx77⟩ : ∃ x, kind_number a1 = x := ⟨_, rfl⟩
 have hs79 := letS hx77 hs42
 have hx80 : (0 ≤ x76.1.Lo ∧ x76.1.Lo ≤ 18446744073709551615) ∧ (0 ≤ x76.1.Hi ∧ x76.1.Hi ≤ 18446744073709551615) := by rw [← hx77]; exact kind_number_ok a1 ⟨(by omega), (by omega), (by omega)⟩ 
 refine WR.call (dst := some 16) (by kernel_rfl) (retE (g := fun r : (TSpan × Bool) => (.tuple #[.agg #[.int .u64 r.1.Lo, .int .u64 r.1.Hi], .bool r.2] : Value)) hx77 (kind_number_any a1 w67  ⟨(by omega), (by omega), (by omega)⟩ )) ?_
 rintro _ w81 hc82 rfl
 have hz84 := hc82.size
 have hC83 := hC70.pure hc82
 have hb85 := hb72.pure hc82
 have hb86 := hb73.pure hc82
 have hb87 := hb74.pure hc82
 have hb88 := hb68.pure hc82
 refine WR.batch 3 [(2, pt g2 0), (3, pt g12 0), (4, pt g24 0), (5, pt g51 0), (6, .bool x39.2), (17, .agg #[.int .u64 x76.1.Lo, .int .u64 x76.1.Hi]), (18, .bool x76.2)] (by kernel_rfl) ?_
 refine WR.alloc (dst := some 7) (e := 25) (by kernel_rfl) #[.int .u64 0, .int .u64 0] (by kernel_rfl) ?_
 intro g89 w90 hN91
 have hl94 : g2 < g89 := Nat.lt_of_lt_of_le hb85.lt hN91.fresh
 have hl95 : g12 < g89 := Nat.lt_of_lt_of_le hb86.lt hN91.fresh
 have hl96 : g24 < g89 := Nat.lt_of_lt_of_le hb87.lt hN91.fresh
 have hl97 : g51 < g89 := Nat.lt_of_lt_of_le hb88.lt hN91.fresh
 have hf93 : w.heap.size ≤ g89 := Nat.le_trans hC83.size hN91.fresh
 have hfr99 := hN91.fresh
 have hc98 := hN91.chg
 have hz101 := hc98.size
 have hC100 := hC83.pure hc98
 have hb102 := hb85.pure hc98
 have hb103 := hb86.pure hc98
 have hb104 := hb87.pure hc98
 have hb105 := hb88.pure hc98
 have hb92 := hN91.blk
 have hg106 := hb92.lt
 refine WR.store (t := 25) (o := 0) (v := .agg #[.int .u64 x76.1.Lo, .int .u64 x76.1.Hi]) hb92 (by kernel_rfl) #[.int .u64 x76.1.Lo, .int .u64 x76.1.Hi] (by kernel_rfl) ?_
 intro w107 hb108 hc109
 have hz111 := hc109.size
 have hC110 := hC100.step1 hc109 (by omega)
 have hb112 := hb102.chg1 hc109 (by omega)
 have hb113 := hb103.chg1 hc109 (by omega)
 have hb114 := hb104.chg1 hc109 (by omega)
 have hb115 := hb105.chg1 hc109 (by omega)
 refine WR.batch 1 [(2, pt g2 0), (3, pt g12 0), (4, pt g24 0), (5, pt g51 0), (6, .bool x39.2), (7, pt g89 0), (8, .bool x76.2)] (by kernel_rfl) ?_
 refine WR.fin (by kernel_rfl) ?_
 refine go hK75 ?_
 refine CW.seq fun K116 hK116 => ?_
 refine CW.block ?_
 refine CW.seq fun K117 hK117 => ?_
 refine CW.region ?_
 refine WR.load (dst := some 20) (t := 56) (o := 0) hb112 (by kernel_rfl) (.agg #[.int .u8 a0.Kind, .int .u64 a0.In.Lo, .int .u64 a0.In.Hi]) (by kernel_rfl) ?_
 obtain ⟨x118, hx119⟩ : ∃ x, kind_Right a0 = x := ⟨_, rfl⟩
 have hs120 := letS hx119 hs79
 refine WR.call (dst := some 21) (by kernel_rfl) (retE (g := fun r : Bool => (.bool r : Value)) hx119 (kind_Right_any a0 w107  ⟨(by omega), (by omega), (by omega)⟩ )) ?_
 rintro _ w121 hc122 rfl
 have hz124 := hc122.size
 have hC123 := hC110.pure hc122
 have hb125 := hb112.pure hc122
 have hb126 := hb113.pure hc122
 have hb127 := hb114.pure hc122
 have hb128 := hb115.pure hc122
 have hb129 := hb108.pure hc122
 refine WR.batch 2 [(2, pt g2 0), (3, pt g12 0), (4, pt g24 0), (5, pt g51 0), (6, .bool x39.2), (7, pt g89 0), (8, .bool x76.2), (23, .bool (!x118))] (by kernel_rfl) ?_
 refine WR.mergeW 8 [(2, pt g2 0), (3, pt g12 0), (4, pt g24 0), (5, pt g51 0), (6, .bool x39.2), (7, pt g89 0), (8, .bool x76.2), (27, .bool ((!x118) || (!(kind_Right a1))))] (fun w' => Chg [] w121 w') (fun Q' => ?_) ?_
 ·
  cases hg130 : (!x118)
  ·
   replace hg130 : x118 = true := (bNotF hg130)
   intro hM131
   refine WR.load (dst := some 24) (t := 56) (o := 0) hb126 (by kernel_rfl) (.agg #[.int .u8 a1.Kind, .int .u64 a1.In.Lo, .int .u64 a1.In.Hi]) (by kernel_rfl) ?_
   refine WR.call (dst := some 25) (by kernel_rfl) (kind_Right_any a1 w121  ⟨(by omega), (by omega), (by omega)⟩ ) ?_
   rintro _ w132 hc133 rfl
   have hz135 := hc133.size
   have hC134 := hC123.pure hc133
   have hb136 := hb125.pure hc133
   have hb137 := hb126.pure hc133
   have hb138 := hb127.pure hc133
   have hb139 := hb128.pure hc133
   have hb140 := hb129.pure hc133
   refine WR.batch 2 [(2, pt g2 0), (3, pt g12 0), (4, pt g24 0), (5, pt g51 0), (6, .bool x39.2), (7, pt g89 0), (8, .bool x76.2), (27, .bool (!(kind_Right a1)))] (by kernel_rfl) ?_
   exact WR.keep [2, 3, 4, 5, 6, 7, 8, 27] (by kernel_rfl) (hM131 _ ((Chg.refl [] w121).pure hc133))
  ·
   replace hg130 : x118 = false := (bNotT hg130)
   intro hM131
   refine WR.batch 4 [(2, pt g2 0), (3, pt g12 0), (4, pt g24 0), (5, pt g51 0), (6, .bool x39.2), (7, pt g89 0), (8, .bool x76.2), (27, .bool true)] (by kernel_rfl) ?_
   exact WR.keep [2, 3, 4, 5, 6, 7, 8, 27] (by kernel_rfl) (hM131 _ (Chg.refl [] w121))
 intro w141 hc142
 have hz144 := hc142.size
 have hC143 := hC123.pure hc142
 have hb145 := hb125.pure hc142
 have hb146 := hb126.pure hc142
 have hb147 := hb127.pure hc142
 have hb148 := hb128.pure hc142
 have hb149 := hb129.pure hc142
 refine WR.batch 1 [(2, pt g2 0), (3, pt g12 0), (4, pt g24 0), (5, pt g51 0), (6, .bool x39.2), (7, pt g89 0), (8, .bool x76.2), (19, .bool ((!x118) || (!(kind_Right a1))))] (by kernel_rfl) ?_
 refine WR.fin (by kernel_rfl) ?_
 refine go hK117 ?_
 refine CW.cond (((!x118) || (!(kind_Right a1)))) (by kernel_rfl) (fun ht150 => ?_) (fun ht150 => ?_)
 ·
  have hs151 := ifT ht150 hs120
  replace ht150 : (x118 = false) ∨ ((kind_Right a1) = false) := (orMap (bOrT ht150) (fun h => (bNotT h)) (fun h => (bNotT h)))
  refine CW.seq fun K152 hK152 => ?_
  refine CW.region ?_
  refine WR.batch 1 [(4, pt g24 0), (28, .agg #[.int .u8 0, .int .u64 0, .int .u64 0])] (by kernel_rfl) ?_
  refine WR.store (t := 56) (o := 0) (v := .agg #[.int .u8 0, .int .u64 0, .int .u64 0]) hb147 (by kernel_rfl) #[.int .u8 0, .int .u64 0, .int .u64 0] (by kernel_rfl) ?_
  intro w153 hb154 hc155
  have hz157 := hc155.size
  have hC156 := hC143.step1 hc155 (by omega)
  have hb158 := hb145.chg1 hc155 (by omega)
  have hb159 := hb146.chg1 hc155 (by omega)
  have hb160 := hb148.chg1 hc155 (by omega)
  have hb161 := hb149.chg1 hc155 (by omega)
  refine WR.fin (by kernel_rfl) ?_
  refine go hK152 ?_
  refine CW.ret ?_
  exact retC [.agg #[.int .u8 0, .int .u64 0, .int .u64 0]] (.agg #[.int .u8 0, .int .u64 0, .int .u64 0]) rfl ⟨resCell hb154 rfl (by kernel_rfl), trivial⟩ (⟨hC156, (congrArg (fun r : TKnown => (.agg #[.int .u8 r.Kind, .int .u64 r.In.Lo, .int .u64 r.In.Hi] : Value)) hs151).symm⟩)
 have hs162 := ifF ht150 hs120
 replace ht150 : (x118 = true) ∧ ((kind_Right a1) = true) := ⟨(bNotF (bOrF ht150).1), (bNotF (bOrF ht150).2)⟩
 refine CW.seq fun K163 hK163 => ?_
 refine CW.region ?_
 refine WR.load (dst := some 30) (t := 56) (o := 0) hb145 (by kernel_rfl) (.agg #[.int .u8 a0.Kind, .int .u64 a0.In.Lo, .int .u64 a0.In.Hi]) (by kernel_rfl) ?_
 refine WR.load (dst := some 31) (t := 56) (o := 0) hb146 (by kernel_rfl) (.agg #[.int .u8 a1.Kind, .int .u64 a1.In.Lo, .int .u64 a1.In.Hi]) (by kernel_rfl) ?_
 refine WR.valR (dst := some 32) (v := .bool ((a0.Kind == a1.Kind) && ((a0.In.Lo == a1.In.Lo) && (a0.In.Hi == a1.In.Hi)))) (w' := w141) (run_eqS (t := 56) (xs := #[.int .u8 a0.Kind, .int .u64 a0.In.Lo, .int .u64 a0.In.Hi]) (ys := #[.int .u8 a1.Kind, .int .u64 a1.In.Lo, .int .u64 a1.In.Hi]) (neg := false) (b := ((a0.Kind == a1.Kind) && ((a0.In.Lo == a1.In.Lo) && (a0.In.Hi == a1.In.Hi)))) (by kernel_rfl) (by kernel_rfl) (by kernel_rfl) w141) ?_
 refine WR.batch 1 [(2, pt g2 0), (3, pt g12 0), (4, pt g24 0), (5, pt g51 0), (6, .bool x39.2), (7, pt g89 0), (8, .bool x76.2), (29, .bool ((a0.Kind == a1.Kind) && ((a0.In.Lo == a1.In.Lo) && (a0.In.Hi == a1.In.Hi))))] (by kernel_rfl) ?_
 refine WR.fin (by kernel_rfl) ?_
 refine go hK163 ?_
 refine CW.cond (((a0.Kind == a1.Kind) && ((a0.In.Lo == a1.In.Lo) && (a0.In.Hi == a1.In.Hi)))) (by kernel_rfl) (fun ht164 => ?_) (fun ht164 => ?_)
 ·
  have hs165 := ifT ht164 hs162
  replace ht164 : (a0.Kind = a1.Kind) ∧ ((a0.In.Lo = a1.In.Lo) ∧ (a0.In.Hi = a1.In.Hi)) := ⟨(bEqT (bAndT ht164).1), ⟨(bEqT (bAndT (bAndT ht164).2).1), (bEqT (bAndT (bAndT ht164).2).2)⟩⟩
  refine CW.seq fun K166 hK166 => ?_
  refine CW.region ?_
  refine WR.load (dst := some 33) (t := 56) (o := 0) hb145 (by kernel_rfl) (.agg #[.int .u8 a0.Kind, .int .u64 a0.In.Lo, .int .u64 a0.In.Hi]) (by kernel_rfl) ?_
  refine WR.store (t := 56) (o := 0) (v := .agg #[.int .u8 a0.Kind, .int .u64 a0.In.Lo, .int .u64 a0.In.Hi]) hb147 (by kernel_rfl) #[.int .u8 a0.Kind, .int .u64 a0.In.Lo, .int .u64 a0.In.Hi] (by kernel_rfl) ?_
  intro w167 hb168 hc169
  have hz171 := hc169.size
  have hC170 := hC143.step1 hc169 (by omega)
  have hb172 := hb145.chg1 hc169 (by omega)
  have hb173 := hb146.chg1 hc169 (by omega)
  have hb174 := hb148.chg1 hc169 (by omega)
  have hb175 := hb149.chg1 hc169 (by omega)
  refine WR.fin (by kernel_rfl) ?_
  refine go hK166 ?_
  refine CW.ret ?_
  exact retC [.agg #[.int .u8 a0.Kind, .int .u64 a0.In.Lo, .int .u64 a0.In.Hi]] (.agg #[.int .u8 a0.Kind, .int .u64 a0.In.Lo, .int .u64 a0.In.Hi]) rfl ⟨resCell hb168 rfl (by kernel_rfl), trivial⟩ (⟨hC170, (congrArg (fun r : TKnown => (.agg #[.int .u8 r.Kind, .int .u64 r.In.Lo, .int .u64 r.In.Hi] : Value)) hs165).symm⟩)
 have hs176 := ifF ht164 hs162
 replace ht164 : (a0.Kind ≠ a1.Kind) ∨ ((a0.In.Lo ≠ a1.In.Lo) ∨ (a0.In.Hi ≠ a1.In.Hi)) := (orMap (bAndF ht164) (fun h => (bEqF h)) (fun h => (orMap (bAndF h) (fun h => (bEqF h)) (fun h => (bEqF h)))))
 refine CW.seq fun K177 hK177 => ?_
 refine CW.region ?_
 refine WR.batch 2 [(2, pt g2 0), (3, pt g12 0), (4, pt g24 0), (5, pt g51 0), (7, pt g89 0), (8, .bool x76.2), (36, .bool x39.2)] (by kernel_rfl) ?_
 refine WR.batch 2 [(2, pt g2 0), (3, pt g12 0), (4, pt g24 0), (5, pt g51 0), (7, pt g89 0), (38, .bool (x39.2 && x76.2))] (by generalize x39.2 = b; cases b <;> kernel_rfl) ?_
 refine WR.batch 1 [(2, pt g2 0), (3, pt g12 0), (4, pt g24 0), (5, pt g51 0), (7, pt g89 0), (34, .bool (x39.2 && x76.2))] (by kernel_rfl) ?_
 refine WR.fin (by kernel_rfl) ?_
 refine go hK177 ?_
 refine CW.cond ((x39.2 && x76.2)) (by kernel_rfl) (fun ht178 => ?_) (fun ht178 => ?_)
 ·
  have hs179 := ifT ht178 hs176
  replace ht178 : (x39.2 = true) ∧ (x76.2 = true) := ⟨(bAndT ht178).1, (bAndT ht178).2⟩
  refine CW.seq fun K180 hK180 => ?_
  refine CW.region ?_
  refine WR.load (dst := some 39) (t := 25) (o := 0) hb148 (by kernel_rfl) (.agg #[.int .u64 x39.1.Lo, .int .u64 x39.1.Hi]) (by kernel_rfl) ?_
  refine WR.load (dst := some 40) (t := 25) (o := 0) hb149 (by kernel_rfl) (.agg #[.int .u64 x76.1.Lo, .int .u64 x76.1.Hi]) (by kernel_rfl) ?_
  obtain ⟨x181, hx182⟩ : ∃ x, span_Join x39.1 x76.1 = x := ⟨_, rfl⟩
  have hs184 := letS hx182 hs179
  have hx185 : (0 ≤ x181.Lo ∧ x181.Lo ≤ 18446744073709551615) ∧ (0 ≤ x181.Hi ∧ x181.Hi ≤ 18446744073709551615) := by rw [← hx182]; exact span_Join_ok x39.1 x76.1 ⟨(by omega), (by omega)⟩ ⟨(by omega), (by omega)⟩ 
  refine WR.call (dst := some 41) (by kernel_rfl) (retE (g := fun r : TSpan => (.agg #[.int .u64 r.Lo, .int .u64 r.Hi] : Value)) hx182 (span_Join_any x39.1 x76.1 w141  ⟨(by omega), (by omega)⟩ ⟨(by omega), (by omega)⟩ )) ?_
  rintro _ w186 hc187 rfl
  have hz189 := hc187.size
  have hC188 := hC143.pure hc187
  have hb190 := hb145.pure hc187
  have hb191 := hb146.pure hc187
  have hb192 := hb147.pure hc187
  have hb193 := hb148.pure hc187
  have hb194 := hb149.pure hc187
  refine WR.batch 1 [(4, pt g24 0), (42, .agg #[.int .u8 1, .int .u64 x181.Lo, .int .u64 x181.Hi])] (by kernel_rfl) ?_
  refine WR.store (t := 56) (o := 0) (v := .agg #[.int .u8 1, .int .u64 x181.Lo, .int .u64 x181.Hi]) hb192 (by kernel_rfl) #[.int .u8 1, .int .u64 x181.Lo, .int .u64 x181.Hi] (by kernel_rfl) ?_
  intro w195 hb196 hc197
  have hz199 := hc197.size
  have hC198 := hC188.step1 hc197 (by omega)
  have hb200 := hb190.chg1 hc197 (by omega)
  have hb201 := hb191.chg1 hc197 (by omega)
  have hb202 := hb193.chg1 hc197 (by omega)
  have hb203 := hb194.chg1 hc197 (by omega)
  refine WR.fin (by kernel_rfl) ?_
  refine go hK180 ?_
  refine CW.ret ?_
  exact retC [.agg #[.int .u8 1, .int .u64 x181.Lo, .int .u64 x181.Hi]] (.agg #[.int .u8 1, .int .u64 x181.Lo, .int .u64 x181.Hi]) rfl ⟨resCell hb196 rfl (by kernel_rfl), trivial⟩ (⟨hC198, (congrArg (fun r : TKnown => (.agg #[.int .u8 r.Kind, .int .u64 r.In.Lo, .int .u64 r.In.Hi] : Value)) hs184).symm⟩)
 have hs204 := ifF ht178 hs176
 replace ht178 : (x39.2 = false) ∨ (x76.2 = false) := (orMap (bAndF ht178) (fun h => h) (fun h => h))
 refine CW.seq fun K205 hK205 => ?_
 refine CW.region ?_
 refine WR.batch 1 [(2, pt g2 0), (3, pt g12 0), (4, pt g24 0), (44, pt g2 0)] (by kernel_rfl) ?_
 refine WR.load (dst := some 45) (t := 54) (o := 0) hb145 (by kernel_rfl) (.int .u8 a0.Kind) (by kernel_rfl) ?_
 refine WR.batch 2 [(2, pt g2 0), (3, pt g12 0), (4, pt g24 0), (47, .bool (a0.Kind == (2 : Int)))] (by kernel_rfl) ?_
 refine WR.mergeW 8 [(2, pt g2 0), (3, pt g12 0), (4, pt g24 0), (51, .bool ((a0.Kind == (2 : Int)) && (a1.Kind == (2 : Int))))] (fun w' => Chg [] w141 w') (fun Q' => ?_) ?_
 ·
  cases hg206 : (a0.Kind == (2 : Int))
  ·
   replace hg206 : a0.Kind ≠ (2 : Int) := (bEqF hg206)
   intro hM207
   refine WR.batch 4 [(2, pt g2 0), (3, pt g12 0), (4, pt g24 0), (51, .bool false)] (by kernel_rfl) ?_
   exact WR.keep [2, 3, 4, 51] (by kernel_rfl) (hM207 _ (Chg.refl [] w141))
  ·
   replace hg206 : a0.Kind = (2 : Int) := (bEqT hg206)
   intro hM207
   refine WR.batch 1 [(2, pt g2 0), (3, pt g12 0), (4, pt g24 0), (47, .bool true), (48, pt g12 0)] (by kernel_rfl) ?_
   refine WR.load (dst := some 49) (t := 54) (o := 0) hb146 (by kernel_rfl) (.int .u8 a1.Kind) (by kernel_rfl) ?_
   refine WR.batch 2 [(2, pt g2 0), (3, pt g12 0), (4, pt g24 0), (51, .bool (a1.Kind == (2 : Int)))] (by kernel_rfl) ?_
   exact WR.keep [2, 3, 4, 51] (by kernel_rfl) (hM207 _ (Chg.refl [] w141))
 intro w208 hc209
 have hz211 := hc209.size
 have hC210 := hC143.pure hc209
 have hb212 := hb145.pure hc209
 have hb213 := hb146.pure hc209
 have hb214 := hb147.pure hc209
 have hb215 := hb148.pure hc209
 have hb216 := hb149.pure hc209
 refine WR.batch 1 [(2, pt g2 0), (3, pt g12 0), (4, pt g24 0), (43, .bool ((a0.Kind == (2 : Int)) && (a1.Kind == (2 : Int))))] (by kernel_rfl) ?_
 refine WR.fin (by kernel_rfl) ?_
 refine go hK205 ?_
 refine CW.cond (((a0.Kind == (2 : Int)) && (a1.Kind == (2 : Int)))) (by kernel_rfl) (fun ht217 => ?_) (fun ht217 => ?_)
 ·
  have hs218 := ifT ht217 hs204
  replace ht217 : (a0.Kind = (2 : Int)) ∧ (a1.Kind = (2 : Int)) := ⟨(bEqT (bAndT ht217).1), (bEqT (bAndT ht217).2)⟩
  refine CW.seq fun K219 hK219 => ?_
  refine CW.region ?_
  refine WR.batch 1 [(3, pt g12 0), (4, pt g24 0), (52, pt g2 1)] (by kernel_rfl) ?_
  refine WR.load (dst := some 53) (t := 25) (o := 1) hb212 (by kernel_rfl) (.agg #[.int .u64 a0.In.Lo, .int .u64 a0.In.Hi]) (by kernel_rfl) ?_
  refine WR.batch 1 [(4, pt g24 0), (53, .agg #[.int .u64 a0.In.Lo, .int .u64 a0.In.Hi]), (54, pt g12 1)] (by kernel_rfl) ?_
  refine WR.load (dst := some 55) (t := 25) (o := 1) hb213 (by kernel_rfl) (.agg #[.int .u64 a1.In.Lo, .int .u64 a1.In.Hi]) (by kernel_rfl) ?_
  obtain ⟨x220, hx221⟩ : ∃ x, span_Join a0.In a1.In = x := ⟨_, rfl⟩
  have hs223 := letS hx221 hs218
  have hx224 : (0 ≤ x220.Lo ∧ x220.Lo ≤ 18446744073709551615) ∧ (0 ≤ x220.Hi ∧ x220.Hi ≤ 18446744073709551615) := by rw [← hx221]; exact span_Join_ok a0.In a1.In ⟨(by omega), (by omega)⟩ ⟨(by omega), (by omega)⟩ 
  refine WR.call (dst := some 56) (by kernel_rfl) (retE (g := fun r : TSpan => (.agg #[.int .u64 r.Lo, .int .u64 r.Hi] : Value)) hx221 (span_Join_any a0.In a1.In w208  ⟨(by omega), (by omega)⟩ ⟨(by omega), (by omega)⟩ )) ?_
  rintro _ w225 hc226 rfl
  have hz228 := hc226.size
  have hC227 := hC210.pure hc226
  have hb229 := hb212.pure hc226
  have hb230 := hb213.pure hc226
  have hb231 := hb214.pure hc226
  have hb232 := hb215.pure hc226
  have hb233 := hb216.pure hc226
  refine WR.batch 1 [(4, pt g24 0), (57, .agg #[.int .u8 2, .int .u64 x220.Lo, .int .u64 x220.Hi])] (by kernel_rfl) ?_
  refine WR.store (t := 56) (o := 0) (v := .agg #[.int .u8 2, .int .u64 x220.Lo, .int .u64 x220.Hi]) hb231 (by kernel_rfl) #[.int .u8 2, .int .u64 x220.Lo, .int .u64 x220.Hi] (by kernel_rfl) ?_
  intro w234 hb235 hc236
  have hz238 := hc236.size
  have hC237 := hC227.step1 hc236 (by omega)
  have hb239 := hb229.chg1 hc236 (by omega)
  have hb240 := hb230.chg1 hc236 (by omega)
  have hb241 := hb232.chg1 hc236 (by omega)
  have hb242 := hb233.chg1 hc236 (by omega)
  refine WR.fin (by kernel_rfl) ?_
  refine go hK219 ?_
  refine CW.ret ?_
  exact retC [.agg #[.int .u8 2, .int .u64 x220.Lo, .int .u64 x220.Hi]] (.agg #[.int .u8 2, .int .u64 x220.Lo, .int .u64 x220.Hi]) rfl ⟨resCell hb235 rfl (by kernel_rfl), trivial⟩ (⟨hC237, (congrArg (fun r : TKnown => (.agg #[.int .u8 r.Kind, .int .u64 r.In.Lo, .int .u64 r.In.Hi] : Value)) hs223).symm⟩)
 have hs243 := ifF ht217 hs204
 replace ht217 : (a0.Kind ≠ (2 : Int)) ∨ (a1.Kind ≠ (2 : Int)) := (orMap (bAndF ht217) (fun h => (bEqF h)) (fun h => (bEqF h)))
 refine CW.skip ?_
 refine go hK116 ?_
 refine CW.seq fun K244 hK244 => ?_
 refine CW.region ?_
 refine WR.batch 1 [(4, pt g24 0), (58, .agg #[.int .u8 0, .int .u64 0, .int .u64 0])] (by kernel_rfl) ?_
 refine WR.store (t := 56) (o := 0) (v := .agg #[.int .u8 0, .int .u64 0, .int .u64 0]) hb214 (by kernel_rfl) #[.int .u8 0, .int .u64 0, .int .u64 0] (by kernel_rfl) ?_
 intro w245 hb246 hc247
 have hz249 := hc247.size
 have hC248 := hC210.step1 hc247 (by omega)
 have hb250 := hb212.chg1 hc247 (by omega)
 have hb251 := hb213.chg1 hc247 (by omega)
 have hb252 := hb215.chg1 hc247 (by omega)
 have hb253 := hb216.chg1 hc247 (by omega)
 refine WR.fin (by kernel_rfl) ?_
 refine go hK244 ?_
 refine CW.ret ?_
 exact retC [.agg #[.int .u8 0, .int .u64 0, .int .u64 0]] (.agg #[.int .u8 0, .int .u64 0, .int .u64 0]) rfl ⟨resCell hb246 rfl (by kernel_rfl), trivial⟩ (⟨hC248, (congrArg (fun r : TKnown => (.agg #[.int .u8 r.Kind, .int .u64 r.In.Lo, .int .u64 r.In.Hi] : Value)) hs243).symm⟩)

def kind_nought (a0 : TSpan) (a1 : Bool)  : Bool := (letF (span_Has a0 (0 : Int)) fun x13 => (x13 || (a1 && (!(span_Within a0 (span_All true))))))

theorem kind_nought_any (a0 : TSpan) (a1 : Bool)   (w : World)  (_h_a0 : (0 ≤ a0.Lo ∧ a0.Lo ≤ 18446744073709551615) ∧ (0 ≤ a0.Hi ∧ a0.Hi ≤ 18446744073709551615))  : Calls Try.prog 65 #[.agg #[.int .u64 a0.Lo, .int .u64 a0.Hi], .bool a1] w (RetV w (.bool (kind_nought a0 a1))) := by
 have hs := kind_nought.eq_1 a0 a1
 refine calls_of_CW Try.func65 rfl (n := 16) Try.ntmps65 (by kernel_rfl) [0, 1] (F := [(0, .agg #[.int .u64 a0.Lo, .int .u64 a0.Hi]), (1, .bool a1)]) (by kernel_rfl) ?_
 refine CW.seq fun K1 hK1 => ?_
 refine CW.region ?_
 refine WR.box (dst := some 2) (e := 25) (v := .agg #[.int .u64 a0.Lo, .int .u64 a0.Hi]) (by kernel_rfl) #[.int .u64 a0.Lo, .int .u64 a0.Hi] (by kernel_rfl) ?_
 intro g2 w3 hN4
 have hf6 : w.heap.size ≤ g2 := hN4.fresh
 have hfr8 := hN4.fresh
 have hc7 := hN4.chg
 have hz10 := hc7.size
 have hC9 := (Chg.refl [] w).pure hc7
 have hb5 := hN4.blk
 have hg11 := hb5.lt
 refine WR.batch 1 [(1, .bool a1), (2, pt g2 0)] (by kernel_rfl) ?_
 refine WR.fin (by kernel_rfl) ?_
 refine go hK1 ?_
 refine CW.seq fun K12 hK12 => ?_
 refine CW.regionQ (by kernel_rfl) (by kernel_rfl) ?_
 refine WQ.load (dst := some 5) (t := 25) (o := 0) (fun _ hq => hb5.pure hq) (by kernel_rfl) (.agg #[.int .u64 a0.Lo, .int .u64 a0.Hi]) (by kernel_rfl) ?_
 obtain ⟨x13, hx14⟩ : ∃ x, span_Has a0 (0 : Int) = x := ⟨_, rfl⟩
 have hs15 := letS hx14 hs
 refine WQ.call (dst := some 6) (.bool x13) (fun _ => by kernel_rfl) (fun _ _ h h' => h.pure h') (fun wq hq => retE (g := fun r : Bool => (.bool r : Value)) hx14 (span_Has_any a0 (0 : Int) wq  ⟨(by omega), (by omega)⟩ (by omega) )) ?_
 refine WQ.val (dst := some 7) (.bool x13) (fun _ => by kernel_rfl) ?_
 refine WQ.merge 11 [(15, .bool (x13 || (a1 && (!(span_Within a0 (span_All true))))))] (fun Q' => ?_) ?_
 ·
  cases hg16 : x13
  ·
   intro hM17
   refine WQ.val (dst := some 8) (.bool a1) (fun _ => by kernel_rfl) ?_
   refine WQ.val (dst := some 9) (.bool a1) (fun _ => by kernel_rfl) ?_
   refine WQ.merge 10 [(7, .bool false), (14, .bool (a1 && (!(span_Within a0 (span_All true)))))] (fun Q' => ?_) ?_
   ·
    cases hg18 : a1
    ·
     intro hM19
     refine WQ.pass1 (dst := some 10) (by kernel_rfl) ?_
     refine WQ.pass1 (dst := some 11) (by kernel_rfl) ?_
     refine WQ.pass1 (dst := some 12) (by kernel_rfl) ?_
     refine WQ.pass1 (dst := some 13) (by kernel_rfl) ?_
     refine WQ.val (dst := some 14) (.bool false) (fun _ => by kernel_rfl) ?_
     exact WQ.keep [7, 14] (by kernel_rfl) hM19
    ·
     intro hM19
     refine WQ.load (dst := some 10) (t := 25) (o := 0) (fun _ hq => hb5.pure hq) (by kernel_rfl) (.agg #[.int .u64 a0.Lo, .int .u64 a0.Hi]) (by kernel_rfl) ?_
     have hx20 : (0 ≤ (span_All true).Lo ∧ (span_All true).Lo ≤ 18446744073709551615) ∧ (0 ≤ (span_All true).Hi ∧ (span_All true).Hi ≤ 18446744073709551615) := span_All_ok true 
     refine WQ.call (dst := some 11) (.agg #[.int .u64 (span_All true).Lo, .int .u64 (span_All true).Hi]) (fun _ => by kernel_rfl) (fun _ _ h h' => h.pure h') (fun wq hq => span_All_any true wq  ) ?_
     refine WQ.call (dst := some 12) (.bool (span_Within a0 (span_All true))) (fun _ => by kernel_rfl) (fun _ _ h h' => h.pure h') (fun wq hq => span_Within_any a0 (span_All true) wq  ⟨(by omega), (by omega)⟩ ⟨(by omega), (by omega)⟩ ) ?_
     refine WQ.val (dst := some 13) (.bool (!(span_Within a0 (span_All true)))) (fun _ => by kernel_rfl) ?_
     refine WQ.val (dst := some 14) (.bool (!(span_Within a0 (span_All true)))) (fun _ => by kernel_rfl) ?_
     exact WQ.keep [7, 14] (by kernel_rfl) hM19
   have hx21 : (0 ≤ (span_All true).Lo ∧ (span_All true).Lo ≤ 18446744073709551615) ∧ (0 ≤ (span_All true).Hi ∧ (span_All true).Hi ≤ 18446744073709551615) := span_All_ok true 
   refine WQ.val (dst := some 15) (.bool (a1 && (!(span_Within a0 (span_All true))))) (fun _ => by kernel_rfl) ?_
   exact WQ.keep [15] (by kernel_rfl) hM17
  ·
   intro hM17
   refine WQ.pass1 (dst := some 8) (by kernel_rfl) ?_
   refine WQ.pass1 (dst := some 9) (by kernel_rfl) ?_
   refine WQ.pass1 (dst := some 10) (by kernel_rfl) ?_
   refine WQ.pass1 (dst := some 11) (by kernel_rfl) ?_
   refine WQ.pass1 (dst := some 12) (by kernel_rfl) ?_
   refine WQ.pass1 (dst := some 13) (by kernel_rfl) ?_
   refine WQ.pass1 (dst := some 14) (by kernel_rfl) ?_
   refine WQ.val (dst := some 15) (.bool true) (fun _ => by kernel_rfl) ?_
   exact WQ.keep [15] (by kernel_rfl) hM17
 have hx22 : (0 ≤ (span_All true).Lo ∧ (span_All true).Lo ≤ 18446744073709551615) ∧ (0 ≤ (span_All true).Hi ∧ (span_All true).Hi ≤ 18446744073709551615) := span_All_ok true 
 refine WQ.val (dst := some 4) (.bool (x13 || (a1 && (!(span_Within a0 (span_All true)))))) (fun _ => by kernel_rfl) ?_
 refine WQ.fin (by kernel_rfl) ?_
 intro w23 hc24
 have hz26 := hc24.size
 have hC25 := hC9.pure hc24
 have hb27 := hb5.pure hc24
 refine go hK12 ?_
 refine CW.ret ?_
 exact retV (.bool (x13 || (a1 && (!(span_Within a0 (span_All true)))))) (by kernel_rfl) (⟨hC25, (congrArg (fun r : Bool => (.bool r : Value)) hs15).symm⟩)

def kind_Do (a0 : Int) (a1 : Bool) (a2 : TKnown) (a3 : TKnown)  : (TKnown × Int) := (if ((((decide (a0 < (1 : Int))) || (decide (a0 > (13 : Int)))) || (!(kind_Right a2))) || (!(kind_Right a3))) then ((⟨(0 : Int), (⟨(0 : Int), (0 : Int)⟩ : TSpan)⟩ : TKnown), (2 : Int)) else (if (((a0 != (12 : Int)) && (a2.Kind == (0 : Int))) || ((a0 != (13 : Int)) && (a3.Kind == (0 : Int)))) then ((⟨(0 : Int), (⟨(0 : Int), (0 : Int)⟩ : TSpan)⟩ : TKnown), (110 : Int)) else (if ((a0 == (12 : Int)) && (!a1)) then (a3, (0 : Int)) else (if (a0 == (12 : Int)) then (letF (kind_number a3) fun x145 => (letF (kind_number a3) fun x182 => (if (((x145.2 && x182.2) && ((a0 == (4 : Int)) || (a0 == (5 : Int)))) && (kind_nought x182.1 a1)) then ((⟨(0 : Int), (⟨(0 : Int), (0 : Int)⟩ : TSpan)⟩ : TKnown), (113 : Int)) else (if (x145.2 && x182.2) then (letF (span_Do a0 a1 x145.1 x182.1) fun x273 => ((⟨(1 : Int), x273⟩ : TKnown), (0 : Int))) else (if (((((a0 == (1 : Int)) || (a0 == (2 : Int))) && (!a1)) && x182.2) && (a3.Kind == (2 : Int))) then ((⟨a3.Kind, (span_Do a0 false a3.In x182.1)⟩ : TKnown), (0 : Int)) else (if ((((((a0 == (1 : Int)) || (a0 == (2 : Int))) && (!a1)) && x182.2) && (a3.Kind == (3 : Int))) && (x182.1.Lo == x182.1.Hi)) then ((⟨a3.Kind, (span_Do a0 false a3.In x182.1)⟩ : TKnown), (0 : Int)) else ((⟨(0 : Int), (⟨(0 : Int), (0 : Int)⟩ : TSpan)⟩ : TKnown), (114 : Int)))))))) else (if (a0 == (13 : Int)) then (letF (kind_number a2) fun x537 => (letF (kind_number a2) fun x574 => (if (((x537.2 && x574.2) && ((a0 == (4 : Int)) || (a0 == (5 : Int)))) && (kind_nought x574.1 a1)) then ((⟨(0 : Int), (⟨(0 : Int), (0 : Int)⟩ : TSpan)⟩ : TKnown), (113 : Int)) else (if (x537.2 && x574.2) then (letF (span_Do a0 a1 x537.1 x574.1) fun x665 => ((⟨(1 : Int), x665⟩ : TKnown), (0 : Int))) else (if (((((a0 == (1 : Int)) || (a0 == (2 : Int))) && (!a1)) && x574.2) && (a2.Kind == (2 : Int))) then ((⟨a2.Kind, (span_Do a0 false a2.In x574.1)⟩ : TKnown), (0 : Int)) else (if ((((((a0 == (1 : Int)) || (a0 == (2 : Int))) && (!a1)) && x574.2) && (a2.Kind == (3 : Int))) && (x574.1.Lo == x574.1.Hi)) then ((⟨a2.Kind, (span_Do a0 false a2.In x574.1)⟩ : TKnown), (0 : Int)) else ((⟨(0 : Int), (⟨(0 : Int), (0 : Int)⟩ : TSpan)⟩ : TKnown), (114 : Int)))))))) else (letF (kind_number a2) fun x919 => (letF (kind_number a3) fun x956 => (if (((x919.2 && x956.2) && ((a0 == (4 : Int)) || (a0 == (5 : Int)))) && (kind_nought x956.1 a1)) then ((⟨(0 : Int), (⟨(0 : Int), (0 : Int)⟩ : TSpan)⟩ : TKnown), (113 : Int)) else (if (x919.2 && x956.2) then (letF (span_Do a0 a1 x919.1 x956.1) fun x1047 => ((⟨(1 : Int), x1047⟩ : TKnown), (0 : Int))) else (if (((((a0 == (1 : Int)) || (a0 == (2 : Int))) && (!a1)) && x956.2) && (a2.Kind == (2 : Int))) then ((⟨a2.Kind, (span_Do a0 false a2.In x956.1)⟩ : TKnown), (0 : Int)) else (if ((((((a0 == (1 : Int)) || (a0 == (2 : Int))) && (!a1)) && x956.2) && (a2.Kind == (3 : Int))) && (x956.1.Lo == x956.1.Hi)) then ((⟨a2.Kind, (span_Do a0 false a2.In x956.1)⟩ : TKnown), (0 : Int)) else ((⟨(0 : Int), (⟨(0 : Int), (0 : Int)⟩ : TSpan)⟩ : TKnown), (114 : Int)))))))))))))

theorem kind_Do_ok (a0 : Int) (a1 : Bool) (a2 : TKnown) (a3 : TKnown)  (_h_a0 : (0 ≤ a0 ∧ a0 ≤ 255)) (_h_a2 : (0 ≤ a2.Kind ∧ a2.Kind ≤ 255) ∧ (0 ≤ a2.In.Lo ∧ a2.In.Lo ≤ 18446744073709551615) ∧ (0 ≤ a2.In.Hi ∧ a2.In.Hi ≤ 18446744073709551615)) (_h_a3 : (0 ≤ a3.Kind ∧ a3.Kind ≤ 255) ∧ (0 ≤ a3.In.Lo ∧ a3.In.Lo ≤ 18446744073709551615) ∧ (0 ≤ a3.In.Hi ∧ a3.In.Hi ≤ 18446744073709551615))  : (0 ≤ (kind_Do a0 a1 a2 a3).1.Kind ∧ (kind_Do a0 a1 a2 a3).1.Kind ≤ 255) ∧ (0 ≤ (kind_Do a0 a1 a2 a3).1.In.Lo ∧ (kind_Do a0 a1 a2 a3).1.In.Lo ≤ 18446744073709551615) ∧ (0 ≤ (kind_Do a0 a1 a2 a3).1.In.Hi ∧ (kind_Do a0 a1 a2 a3).1.In.Hi ≤ 18446744073709551615) ∧ (-9223372036854775808 ≤ (kind_Do a0 a1 a2 a3).2 ∧ (kind_Do a0 a1 a2 a3).2 ≤ 9223372036854775807) := by
 rw [kind_Do.eq_1]
 refine iteR (p := fun r : (TKnown × Int) => (0 ≤ r.1.Kind ∧ r.1.Kind ≤ 255) ∧ (0 ≤ r.1.In.Lo ∧ r.1.In.Lo ≤ 18446744073709551615) ∧ (0 ≤ r.1.In.Hi ∧ r.1.In.Hi ≤ 18446744073709551615) ∧ (-9223372036854775808 ≤ r.2 ∧ r.2 ≤ 9223372036854775807)) (fun hi1001 => ?_) (fun hi1001 => ?_)
 ·
  replace hi1001 : (((a0 < (1 : Int)) ∨ (a0 > (13 : Int))) ∨ ((kind_Right a2) = false)) ∨ ((kind_Right a3) = false) := (orMap (bOrT hi1001) (fun h => (orMap (bOrT h) (fun h => (orMap (bOrT h) (fun h => (of_decide_eq_true h)) (fun h => (of_decide_eq_true h)))) (fun h => (bNotT h)))) (fun h => (bNotT h)))
  exact (by exact (show (0 ≤ (0 : Int) ∧ (0 : Int) ≤ 255) ∧ (0 ≤ (0 : Int) ∧ (0 : Int) ≤ 18446744073709551615) ∧ (0 ≤ (0 : Int) ∧ (0 : Int) ≤ 18446744073709551615) ∧ (-9223372036854775808 ≤ (2 : Int) ∧ (2 : Int) ≤ 9223372036854775807) from ⟨(by omega), (by omega), (by omega), (by omega)⟩))
 replace hi1001 : (((¬ (a0 < (1 : Int))) ∧ (¬ (a0 > (13 : Int)))) ∧ ((kind_Right a2) = true)) ∧ ((kind_Right a3) = true) := ⟨⟨⟨(of_decide_eq_false (bOrF (bOrF (bOrF hi1001).1).1).1), (of_decide_eq_false (bOrF (bOrF (bOrF hi1001).1).1).2)⟩, (bNotF (bOrF (bOrF hi1001).1).2)⟩, (bNotF (bOrF hi1001).2)⟩
 refine iteR (p := fun r : (TKnown × Int) => (0 ≤ r.1.Kind ∧ r.1.Kind ≤ 255) ∧ (0 ≤ r.1.In.Lo ∧ r.1.In.Lo ≤ 18446744073709551615) ∧ (0 ≤ r.1.In.Hi ∧ r.1.In.Hi ≤ 18446744073709551615) ∧ (-9223372036854775808 ≤ r.2 ∧ r.2 ≤ 9223372036854775807)) (fun hi1002 => ?_) (fun hi1002 => ?_)
 ·
  replace hi1002 : ((a0 ≠ (12 : Int)) ∧ (a2.Kind = (0 : Int))) ∨ ((a0 ≠ (13 : Int)) ∧ (a3.Kind = (0 : Int))) := (orMap (bOrT hi1002) (fun h => ⟨(bNeT (bAndT h).1), (bEqT (bAndT h).2)⟩) (fun h => ⟨(bNeT (bAndT h).1), (bEqT (bAndT h).2)⟩))
  exact (by exact (show (0 ≤ (0 : Int) ∧ (0 : Int) ≤ 255) ∧ (0 ≤ (0 : Int) ∧ (0 : Int) ≤ 18446744073709551615) ∧ (0 ≤ (0 : Int) ∧ (0 : Int) ≤ 18446744073709551615) ∧ (-9223372036854775808 ≤ (110 : Int) ∧ (110 : Int) ≤ 9223372036854775807) from ⟨(by omega), (by omega), (by omega), (by omega)⟩))
 replace hi1002 : ((a0 = (12 : Int)) ∨ (a2.Kind ≠ (0 : Int))) ∧ ((a0 = (13 : Int)) ∨ (a3.Kind ≠ (0 : Int))) := ⟨(orMap (bAndF (bOrF hi1002).1) (fun h => (bNeF h)) (fun h => (bEqF h))), (orMap (bAndF (bOrF hi1002).2) (fun h => (bNeF h)) (fun h => (bEqF h)))⟩
 refine iteR (p := fun r : (TKnown × Int) => (0 ≤ r.1.Kind ∧ r.1.Kind ≤ 255) ∧ (0 ≤ r.1.In.Lo ∧ r.1.In.Lo ≤ 18446744073709551615) ∧ (0 ≤ r.1.In.Hi ∧ r.1.In.Hi ≤ 18446744073709551615) ∧ (-9223372036854775808 ≤ r.2 ∧ r.2 ≤ 9223372036854775807)) (fun hi1003 => ?_) (fun hi1003 => ?_)
 ·
  replace hi1003 : (a0 = (12 : Int)) ∧ (a1 = false) := ⟨(bEqT (bAndT hi1003).1), (bNotT (bAndT hi1003).2)⟩
  exact (by exact (show (0 ≤ a3.Kind ∧ a3.Kind ≤ 255) ∧ (0 ≤ a3.In.Lo ∧ a3.In.Lo ≤ 18446744073709551615) ∧ (0 ≤ a3.In.Hi ∧ a3.In.Hi ≤ 18446744073709551615) ∧ (-9223372036854775808 ≤ (0 : Int) ∧ (0 : Int) ≤ 9223372036854775807) from ⟨(by omega), (by omega), (by omega), (by omega)⟩))
 replace hi1003 : (a0 ≠ (12 : Int)) ∨ (a1 = true) := (orMap (bAndF hi1003) (fun h => (bEqF h)) (fun h => (bNotF h)))
 refine iteR (p := fun r : (TKnown × Int) => (0 ≤ r.1.Kind ∧ r.1.Kind ≤ 255) ∧ (0 ≤ r.1.In.Lo ∧ r.1.In.Lo ≤ 18446744073709551615) ∧ (0 ≤ r.1.In.Hi ∧ r.1.In.Hi ≤ 18446744073709551615) ∧ (-9223372036854775808 ≤ r.2 ∧ r.2 ≤ 9223372036854775807)) (fun hi1004 => ?_) (fun hi1004 => ?_)
 ·
  replace hi1004 : a0 = (12 : Int) := (bEqT hi1004)
  refine letR (p := fun r : (TKnown × Int) => (0 ≤ r.1.Kind ∧ r.1.Kind ≤ 255) ∧ (0 ≤ r.1.In.Lo ∧ r.1.In.Lo ≤ 18446744073709551615) ∧ (0 ≤ r.1.In.Hi ∧ r.1.In.Hi ≤ 18446744073709551615) ∧ (-9223372036854775808 ≤ r.2 ∧ r.2 ≤ 9223372036854775807)) fun x145 hx146 => ?_
  have hx147 : (0 ≤ x145.1.Lo ∧ x145.1.Lo ≤ 18446744073709551615) ∧ (0 ≤ x145.1.Hi ∧ x145.1.Hi ≤ 18446744073709551615) := by rw [← hx146]; exact kind_number_ok a3 ⟨(by omega), (by omega), (by omega)⟩ 
  refine letR (p := fun r : (TKnown × Int) => (0 ≤ r.1.Kind ∧ r.1.Kind ≤ 255) ∧ (0 ≤ r.1.In.Lo ∧ r.1.In.Lo ≤ 18446744073709551615) ∧ (0 ≤ r.1.In.Hi ∧ r.1.In.Hi ≤ 18446744073709551615) ∧ (-9223372036854775808 ≤ r.2 ∧ r.2 ≤ 9223372036854775807)) fun x182 hx183 => ?_
  have hx184 : (0 ≤ x182.1.Lo ∧ x182.1.Lo ≤ 18446744073709551615) ∧ (0 ≤ x182.1.Hi ∧ x182.1.Hi ≤ 18446744073709551615) := by rw [← hx183]; exact kind_number_ok a3 ⟨(by omega), (by omega), (by omega)⟩ 
  refine iteR (p := fun r : (TKnown × Int) => (0 ≤ r.1.Kind ∧ r.1.Kind ≤ 255) ∧ (0 ≤ r.1.In.Lo ∧ r.1.In.Lo ≤ 18446744073709551615) ∧ (0 ≤ r.1.In.Hi ∧ r.1.In.Hi ≤ 18446744073709551615) ∧ (-9223372036854775808 ≤ r.2 ∧ r.2 ≤ 9223372036854775807)) (fun hi1005 => ?_) (fun hi1005 => ?_)
  ·
   replace hi1005 : (((x145.2 = true) ∧ (x182.2 = true)) ∧ ((a0 = (4 : Int)) ∨ (a0 = (5 : Int)))) ∧ ((kind_nought x182.1 a1) = true) := ⟨⟨⟨(bAndT (bAndT (bAndT hi1005).1).1).1, (bAndT (bAndT (bAndT hi1005).1).1).2⟩, (orMap (bOrT (bAndT (bAndT hi1005).1).2) (fun h => (bEqT h)) (fun h => (bEqT h)))⟩, (bAndT hi1005).2⟩
   exact (by exact (show (0 ≤ (0 : Int) ∧ (0 : Int) ≤ 255) ∧ (0 ≤ (0 : Int) ∧ (0 : Int) ≤ 18446744073709551615) ∧ (0 ≤ (0 : Int) ∧ (0 : Int) ≤ 18446744073709551615) ∧ (-9223372036854775808 ≤ (113 : Int) ∧ (113 : Int) ≤ 9223372036854775807) from ⟨(by omega), (by omega), (by omega), (by omega)⟩))
  replace hi1005 : (((x145.2 = false) ∨ (x182.2 = false)) ∨ ((a0 ≠ (4 : Int)) ∧ (a0 ≠ (5 : Int)))) ∨ ((kind_nought x182.1 a1) = false) := (orMap (bAndF hi1005) (fun h => (orMap (bAndF h) (fun h => (orMap (bAndF h) (fun h => h) (fun h => h))) (fun h => ⟨(bEqF (bOrF h).1), (bEqF (bOrF h).2)⟩))) (fun h => h))
  refine iteR (p := fun r : (TKnown × Int) => (0 ≤ r.1.Kind ∧ r.1.Kind ≤ 255) ∧ (0 ≤ r.1.In.Lo ∧ r.1.In.Lo ≤ 18446744073709551615) ∧ (0 ≤ r.1.In.Hi ∧ r.1.In.Hi ≤ 18446744073709551615) ∧ (-9223372036854775808 ≤ r.2 ∧ r.2 ≤ 9223372036854775807)) (fun hi1006 => ?_) (fun hi1006 => ?_)
  ·
   replace hi1006 : (x145.2 = true) ∧ (x182.2 = true) := ⟨(bAndT hi1006).1, (bAndT hi1006).2⟩
   refine letR (p := fun r : (TKnown × Int) => (0 ≤ r.1.Kind ∧ r.1.Kind ≤ 255) ∧ (0 ≤ r.1.In.Lo ∧ r.1.In.Lo ≤ 18446744073709551615) ∧ (0 ≤ r.1.In.Hi ∧ r.1.In.Hi ≤ 18446744073709551615) ∧ (-9223372036854775808 ≤ r.2 ∧ r.2 ≤ 9223372036854775807)) fun x273 hx274 => ?_
   have hx275 : (0 ≤ x273.Lo ∧ x273.Lo ≤ 18446744073709551615) ∧ (0 ≤ x273.Hi ∧ x273.Hi ≤ 18446744073709551615) := by rw [← hx274]; exact span_Do_ok a0 a1 x145.1 x182.1 (by omega) ⟨(by omega), (by omega)⟩ ⟨(by omega), (by omega)⟩ 
   exact (by exact (show (0 ≤ (1 : Int) ∧ (1 : Int) ≤ 255) ∧ (0 ≤ x273.Lo ∧ x273.Lo ≤ 18446744073709551615) ∧ (0 ≤ x273.Hi ∧ x273.Hi ≤ 18446744073709551615) ∧ (-9223372036854775808 ≤ (0 : Int) ∧ (0 : Int) ≤ 9223372036854775807) from ⟨(by omega), (by omega), (by omega), (by omega)⟩))
  replace hi1006 : (x145.2 = false) ∨ (x182.2 = false) := (orMap (bAndF hi1006) (fun h => h) (fun h => h))
  refine iteR (p := fun r : (TKnown × Int) => (0 ≤ r.1.Kind ∧ r.1.Kind ≤ 255) ∧ (0 ≤ r.1.In.Lo ∧ r.1.In.Lo ≤ 18446744073709551615) ∧ (0 ≤ r.1.In.Hi ∧ r.1.In.Hi ≤ 18446744073709551615) ∧ (-9223372036854775808 ≤ r.2 ∧ r.2 ≤ 9223372036854775807)) (fun hi1007 => ?_) (fun hi1007 => ?_)
  ·
   replace hi1007 : ((((a0 = (1 : Int)) ∨ (a0 = (2 : Int))) ∧ (a1 = false)) ∧ (x182.2 = true)) ∧ (a3.Kind = (2 : Int)) := ⟨⟨⟨(orMap (bOrT (bAndT (bAndT (bAndT hi1007).1).1).1) (fun h => (bEqT h)) (fun h => (bEqT h))), (bNotT (bAndT (bAndT (bAndT hi1007).1).1).2)⟩, (bAndT (bAndT hi1007).1).2⟩, (bEqT (bAndT hi1007).2)⟩
   exact (by have : (0 ≤ (span_Do a0 false a3.In x182.1).Lo ∧ (span_Do a0 false a3.In x182.1).Lo ≤ 18446744073709551615) ∧ (0 ≤ (span_Do a0 false a3.In x182.1).Hi ∧ (span_Do a0 false a3.In x182.1).Hi ≤ 18446744073709551615) := span_Do_ok a0 false a3.In x182.1 (by omega) ⟨(by omega), (by omega)⟩ ⟨(by omega), (by omega)⟩ ; exact (show (0 ≤ a3.Kind ∧ a3.Kind ≤ 255) ∧ (0 ≤ (span_Do a0 false a3.In x182.1).Lo ∧ (span_Do a0 false a3.In x182.1).Lo ≤ 18446744073709551615) ∧ (0 ≤ (span_Do a0 false a3.In x182.1).Hi ∧ (span_Do a0 false a3.In x182.1).Hi ≤ 18446744073709551615) ∧ (-9223372036854775808 ≤ (0 : Int) ∧ (0 : Int) ≤ 9223372036854775807) from ⟨(by omega), (by omega), (by omega), (by omega)⟩))
  replace hi1007 : ((((a0 ≠ (1 : Int)) ∧ (a0 ≠ (2 : Int))) ∨ (a1 = true)) ∨ (x182.2 = false)) ∨ (a3.Kind ≠ (2 : Int)) := (orMap (bAndF hi1007) (fun h => (orMap (bAndF h) (fun h => (orMap (bAndF h) (fun h => ⟨(bEqF (bOrF h).1), (bEqF (bOrF h).2)⟩) (fun h => (bNotF h)))) (fun h => h))) (fun h => (bEqF h)))
  refine iteR (p := fun r : (TKnown × Int) => (0 ≤ r.1.Kind ∧ r.1.Kind ≤ 255) ∧ (0 ≤ r.1.In.Lo ∧ r.1.In.Lo ≤ 18446744073709551615) ∧ (0 ≤ r.1.In.Hi ∧ r.1.In.Hi ≤ 18446744073709551615) ∧ (-9223372036854775808 ≤ r.2 ∧ r.2 ≤ 9223372036854775807)) (fun hi1008 => ?_) (fun hi1008 => ?_)
  ·
   replace hi1008 : (((((a0 = (1 : Int)) ∨ (a0 = (2 : Int))) ∧ (a1 = false)) ∧ (x182.2 = true)) ∧ (a3.Kind = (3 : Int))) ∧ (x182.1.Lo = x182.1.Hi) := ⟨⟨⟨⟨(orMap (bOrT (bAndT (bAndT (bAndT (bAndT hi1008).1).1).1).1) (fun h => (bEqT h)) (fun h => (bEqT h))), (bNotT (bAndT (bAndT (bAndT (bAndT hi1008).1).1).1).2)⟩, (bAndT (bAndT (bAndT hi1008).1).1).2⟩, (bEqT (bAndT (bAndT hi1008).1).2)⟩, (bEqT (bAndT hi1008).2)⟩
   exact (by have : (0 ≤ (span_Do a0 false a3.In x182.1).Lo ∧ (span_Do a0 false a3.In x182.1).Lo ≤ 18446744073709551615) ∧ (0 ≤ (span_Do a0 false a3.In x182.1).Hi ∧ (span_Do a0 false a3.In x182.1).Hi ≤ 18446744073709551615) := span_Do_ok a0 false a3.In x182.1 (by omega) ⟨(by omega), (by omega)⟩ ⟨(by omega), (by omega)⟩ ; exact (show (0 ≤ a3.Kind ∧ a3.Kind ≤ 255) ∧ (0 ≤ (span_Do a0 false a3.In x182.1).Lo ∧ (span_Do a0 false a3.In x182.1).Lo ≤ 18446744073709551615) ∧ (0 ≤ (span_Do a0 false a3.In x182.1).Hi ∧ (span_Do a0 false a3.In x182.1).Hi ≤ 18446744073709551615) ∧ (-9223372036854775808 ≤ (0 : Int) ∧ (0 : Int) ≤ 9223372036854775807) from ⟨(by omega), (by omega), (by omega), (by omega)⟩))
  replace hi1008 : (((((a0 ≠ (1 : Int)) ∧ (a0 ≠ (2 : Int))) ∨ (a1 = true)) ∨ (x182.2 = false)) ∨ (a3.Kind ≠ (3 : Int))) ∨ (x182.1.Lo ≠ x182.1.Hi) := (orMap (bAndF hi1008) (fun h => (orMap (bAndF h) (fun h => (orMap (bAndF h) (fun h => (orMap (bAndF h) (fun h => ⟨(bEqF (bOrF h).1), (bEqF (bOrF h).2)⟩) (fun h => (bNotF h)))) (fun h => h))) (fun h => (bEqF h)))) (fun h => (bEqF h)))
  exact (by exact (show (0 ≤ (0 : Int) ∧ (0 : Int) ≤ 255) ∧ (0 ≤ (0 : Int) ∧ (0 : Int) ≤ 18446744073709551615) ∧ (0 ≤ (0 : Int) ∧ (0 : Int) ≤ 18446744073709551615) ∧ (-9223372036854775808 ≤ (114 : Int) ∧ (114 : Int) ≤ 9223372036854775807) from ⟨(by omega), (by omega), (by omega), (by omega)⟩))
 replace hi1004 : a0 ≠ (12 : Int) := (bEqF hi1004)
 refine iteR (p := fun r : (TKnown × Int) => (0 ≤ r.1.Kind ∧ r.1.Kind ≤ 255) ∧ (0 ≤ r.1.In.Lo ∧ r.1.In.Lo ≤ 18446744073709551615) ∧ (0 ≤ r.1.In.Hi ∧ r.1.In.Hi ≤ 18446744073709551615) ∧ (-9223372036854775808 ≤ r.2 ∧ r.2 ≤ 9223372036854775807)) (fun hi1009 => ?_) (fun hi1009 => ?_)
 ·
  replace hi1009 : a0 = (13 : Int) := (bEqT hi1009)
  refine letR (p := fun r : (TKnown × Int) => (0 ≤ r.1.Kind ∧ r.1.Kind ≤ 255) ∧ (0 ≤ r.1.In.Lo ∧ r.1.In.Lo ≤ 18446744073709551615) ∧ (0 ≤ r.1.In.Hi ∧ r.1.In.Hi ≤ 18446744073709551615) ∧ (-9223372036854775808 ≤ r.2 ∧ r.2 ≤ 9223372036854775807)) fun x537 hx538 => ?_
  have hx539 : (0 ≤ x537.1.Lo ∧ x537.1.Lo ≤ 18446744073709551615) ∧ (0 ≤ x537.1.Hi ∧ x537.1.Hi ≤ 18446744073709551615) := by rw [← hx538]; exact kind_number_ok a2 ⟨(by omega), (by omega), (by omega)⟩ 
  refine letR (p := fun r : (TKnown × Int) => (0 ≤ r.1.Kind ∧ r.1.Kind ≤ 255) ∧ (0 ≤ r.1.In.Lo ∧ r.1.In.Lo ≤ 18446744073709551615) ∧ (0 ≤ r.1.In.Hi ∧ r.1.In.Hi ≤ 18446744073709551615) ∧ (-9223372036854775808 ≤ r.2 ∧ r.2 ≤ 9223372036854775807)) fun x574 hx575 => ?_
  have hx576 : (0 ≤ x574.1.Lo ∧ x574.1.Lo ≤ 18446744073709551615) ∧ (0 ≤ x574.1.Hi ∧ x574.1.Hi ≤ 18446744073709551615) := by rw [← hx575]; exact kind_number_ok a2 ⟨(by omega), (by omega), (by omega)⟩ 
  refine iteR (p := fun r : (TKnown × Int) => (0 ≤ r.1.Kind ∧ r.1.Kind ≤ 255) ∧ (0 ≤ r.1.In.Lo ∧ r.1.In.Lo ≤ 18446744073709551615) ∧ (0 ≤ r.1.In.Hi ∧ r.1.In.Hi ≤ 18446744073709551615) ∧ (-9223372036854775808 ≤ r.2 ∧ r.2 ≤ 9223372036854775807)) (fun hi1010 => ?_) (fun hi1010 => ?_)
  ·
   replace hi1010 : (((x537.2 = true) ∧ (x574.2 = true)) ∧ ((a0 = (4 : Int)) ∨ (a0 = (5 : Int)))) ∧ ((kind_nought x574.1 a1) = true) := ⟨⟨⟨(bAndT (bAndT (bAndT hi1010).1).1).1, (bAndT (bAndT (bAndT hi1010).1).1).2⟩, (orMap (bOrT (bAndT (bAndT hi1010).1).2) (fun h => (bEqT h)) (fun h => (bEqT h)))⟩, (bAndT hi1010).2⟩
   exact (by exact (show (0 ≤ (0 : Int) ∧ (0 : Int) ≤ 255) ∧ (0 ≤ (0 : Int) ∧ (0 : Int) ≤ 18446744073709551615) ∧ (0 ≤ (0 : Int) ∧ (0 : Int) ≤ 18446744073709551615) ∧ (-9223372036854775808 ≤ (113 : Int) ∧ (113 : Int) ≤ 9223372036854775807) from ⟨(by omega), (by omega), (by omega), (by omega)⟩))
  replace hi1010 : (((x537.2 = false) ∨ (x574.2 = false)) ∨ ((a0 ≠ (4 : Int)) ∧ (a0 ≠ (5 : Int)))) ∨ ((kind_nought x574.1 a1) = false) := (orMap (bAndF hi1010) (fun h => (orMap (bAndF h) (fun h => (orMap (bAndF h) (fun h => h) (fun h => h))) (fun h => ⟨(bEqF (bOrF h).1), (bEqF (bOrF h).2)⟩))) (fun h => h))
  refine iteR (p := fun r : (TKnown × Int) => (0 ≤ r.1.Kind ∧ r.1.Kind ≤ 255) ∧ (0 ≤ r.1.In.Lo ∧ r.1.In.Lo ≤ 18446744073709551615) ∧ (0 ≤ r.1.In.Hi ∧ r.1.In.Hi ≤ 18446744073709551615) ∧ (-9223372036854775808 ≤ r.2 ∧ r.2 ≤ 9223372036854775807)) (fun hi1011 => ?_) (fun hi1011 => ?_)
  ·
   replace hi1011 : (x537.2 = true) ∧ (x574.2 = true) := ⟨(bAndT hi1011).1, (bAndT hi1011).2⟩
   refine letR (p := fun r : (TKnown × Int) => (0 ≤ r.1.Kind ∧ r.1.Kind ≤ 255) ∧ (0 ≤ r.1.In.Lo ∧ r.1.In.Lo ≤ 18446744073709551615) ∧ (0 ≤ r.1.In.Hi ∧ r.1.In.Hi ≤ 18446744073709551615) ∧ (-9223372036854775808 ≤ r.2 ∧ r.2 ≤ 9223372036854775807)) fun x665 hx666 => ?_
   have hx667 : (0 ≤ x665.Lo ∧ x665.Lo ≤ 18446744073709551615) ∧ (0 ≤ x665.Hi ∧ x665.Hi ≤ 18446744073709551615) := by rw [← hx666]; exact span_Do_ok a0 a1 x537.1 x574.1 (by omega) ⟨(by omega), (by omega)⟩ ⟨(by omega), (by omega)⟩ 
   exact (by exact (show (0 ≤ (1 : Int) ∧ (1 : Int) ≤ 255) ∧ (0 ≤ x665.Lo ∧ x665.Lo ≤ 18446744073709551615) ∧ (0 ≤ x665.Hi ∧ x665.Hi ≤ 18446744073709551615) ∧ (-9223372036854775808 ≤ (0 : Int) ∧ (0 : Int) ≤ 9223372036854775807) from ⟨(by omega), (by omega), (by omega), (by omega)⟩))
  replace hi1011 : (x537.2 = false) ∨ (x574.2 = false) := (orMap (bAndF hi1011) (fun h => h) (fun h => h))
  refine iteR (p := fun r : (TKnown × Int) => (0 ≤ r.1.Kind ∧ r.1.Kind ≤ 255) ∧ (0 ≤ r.1.In.Lo ∧ r.1.In.Lo ≤ 18446744073709551615) ∧ (0 ≤ r.1.In.Hi ∧ r.1.In.Hi ≤ 18446744073709551615) ∧ (-9223372036854775808 ≤ r.2 ∧ r.2 ≤ 9223372036854775807)) (fun hi1012 => ?_) (fun hi1012 => ?_)
  ·
   replace hi1012 : ((((a0 = (1 : Int)) ∨ (a0 = (2 : Int))) ∧ (a1 = false)) ∧ (x574.2 = true)) ∧ (a2.Kind = (2 : Int)) := ⟨⟨⟨(orMap (bOrT (bAndT (bAndT (bAndT hi1012).1).1).1) (fun h => (bEqT h)) (fun h => (bEqT h))), (bNotT (bAndT (bAndT (bAndT hi1012).1).1).2)⟩, (bAndT (bAndT hi1012).1).2⟩, (bEqT (bAndT hi1012).2)⟩
   exact (by have : (0 ≤ (span_Do a0 false a2.In x574.1).Lo ∧ (span_Do a0 false a2.In x574.1).Lo ≤ 18446744073709551615) ∧ (0 ≤ (span_Do a0 false a2.In x574.1).Hi ∧ (span_Do a0 false a2.In x574.1).Hi ≤ 18446744073709551615) := span_Do_ok a0 false a2.In x574.1 (by omega) ⟨(by omega), (by omega)⟩ ⟨(by omega), (by omega)⟩ ; exact (show (0 ≤ a2.Kind ∧ a2.Kind ≤ 255) ∧ (0 ≤ (span_Do a0 false a2.In x574.1).Lo ∧ (span_Do a0 false a2.In x574.1).Lo ≤ 18446744073709551615) ∧ (0 ≤ (span_Do a0 false a2.In x574.1).Hi ∧ (span_Do a0 false a2.In x574.1).Hi ≤ 18446744073709551615) ∧ (-9223372036854775808 ≤ (0 : Int) ∧ (0 : Int) ≤ 9223372036854775807) from ⟨(by omega), (by omega), (by omega), (by omega)⟩))
  replace hi1012 : ((((a0 ≠ (1 : Int)) ∧ (a0 ≠ (2 : Int))) ∨ (a1 = true)) ∨ (x574.2 = false)) ∨ (a2.Kind ≠ (2 : Int)) := (orMap (bAndF hi1012) (fun h => (orMap (bAndF h) (fun h => (orMap (bAndF h) (fun h => ⟨(bEqF (bOrF h).1), (bEqF (bOrF h).2)⟩) (fun h => (bNotF h)))) (fun h => h))) (fun h => (bEqF h)))
  refine iteR (p := fun r : (TKnown × Int) => (0 ≤ r.1.Kind ∧ r.1.Kind ≤ 255) ∧ (0 ≤ r.1.In.Lo ∧ r.1.In.Lo ≤ 18446744073709551615) ∧ (0 ≤ r.1.In.Hi ∧ r.1.In.Hi ≤ 18446744073709551615) ∧ (-9223372036854775808 ≤ r.2 ∧ r.2 ≤ 9223372036854775807)) (fun hi1013 => ?_) (fun hi1013 => ?_)
  ·
   replace hi1013 : (((((a0 = (1 : Int)) ∨ (a0 = (2 : Int))) ∧ (a1 = false)) ∧ (x574.2 = true)) ∧ (a2.Kind = (3 : Int))) ∧ (x574.1.Lo = x574.1.Hi) := ⟨⟨⟨⟨(orMap (bOrT (bAndT (bAndT (bAndT (bAndT hi1013).1).1).1).1) (fun h => (bEqT h)) (fun h => (bEqT h))), (bNotT (bAndT (bAndT (bAndT (bAndT hi1013).1).1).1).2)⟩, (bAndT (bAndT (bAndT hi1013).1).1).2⟩, (bEqT (bAndT (bAndT hi1013).1).2)⟩, (bEqT (bAndT hi1013).2)⟩
   exact (by have : (0 ≤ (span_Do a0 false a2.In x574.1).Lo ∧ (span_Do a0 false a2.In x574.1).Lo ≤ 18446744073709551615) ∧ (0 ≤ (span_Do a0 false a2.In x574.1).Hi ∧ (span_Do a0 false a2.In x574.1).Hi ≤ 18446744073709551615) := span_Do_ok a0 false a2.In x574.1 (by omega) ⟨(by omega), (by omega)⟩ ⟨(by omega), (by omega)⟩ ; exact (show (0 ≤ a2.Kind ∧ a2.Kind ≤ 255) ∧ (0 ≤ (span_Do a0 false a2.In x574.1).Lo ∧ (span_Do a0 false a2.In x574.1).Lo ≤ 18446744073709551615) ∧ (0 ≤ (span_Do a0 false a2.In x574.1).Hi ∧ (span_Do a0 false a2.In x574.1).Hi ≤ 18446744073709551615) ∧ (-9223372036854775808 ≤ (0 : Int) ∧ (0 : Int) ≤ 9223372036854775807) from ⟨(by omega), (by omega), (by omega), (by omega)⟩))
  replace hi1013 : (((((a0 ≠ (1 : Int)) ∧ (a0 ≠ (2 : Int))) ∨ (a1 = true)) ∨ (x574.2 = false)) ∨ (a2.Kind ≠ (3 : Int))) ∨ (x574.1.Lo ≠ x574.1.Hi) := (orMap (bAndF hi1013) (fun h => (orMap (bAndF h) (fun h => (orMap (bAndF h) (fun h => (orMap (bAndF h) (fun h => ⟨(bEqF (bOrF h).1), (bEqF (bOrF h).2)⟩) (fun h => (bNotF h)))) (fun h => h))) (fun h => (bEqF h)))) (fun h => (bEqF h)))
  exact (by exact (show (0 ≤ (0 : Int) ∧ (0 : Int) ≤ 255) ∧ (0 ≤ (0 : Int) ∧ (0 : Int) ≤ 18446744073709551615) ∧ (0 ≤ (0 : Int) ∧ (0 : Int) ≤ 18446744073709551615) ∧ (-9223372036854775808 ≤ (114 : Int) ∧ (114 : Int) ≤ 9223372036854775807) from ⟨(by omega), (by omega), (by omega), (by omega)⟩))
 replace hi1009 : a0 ≠ (13 : Int) := (bEqF hi1009)
 refine letR (p := fun r : (TKnown × Int) => (0 ≤ r.1.Kind ∧ r.1.Kind ≤ 255) ∧ (0 ≤ r.1.In.Lo ∧ r.1.In.Lo ≤ 18446744073709551615) ∧ (0 ≤ r.1.In.Hi ∧ r.1.In.Hi ≤ 18446744073709551615) ∧ (-9223372036854775808 ≤ r.2 ∧ r.2 ≤ 9223372036854775807)) fun x919 hx920 => ?_
 have hx921 : (0 ≤ x919.1.Lo ∧ x919.1.Lo ≤ 18446744073709551615) ∧ (0 ≤ x919.1.Hi ∧ x919.1.Hi ≤ 18446744073709551615) := by rw [← hx920]; exact kind_number_ok a2 ⟨(by omega), (by omega), (by omega)⟩ 
 refine letR (p := fun r : (TKnown × Int) => (0 ≤ r.1.Kind ∧ r.1.Kind ≤ 255) ∧ (0 ≤ r.1.In.Lo ∧ r.1.In.Lo ≤ 18446744073709551615) ∧ (0 ≤ r.1.In.Hi ∧ r.1.In.Hi ≤ 18446744073709551615) ∧ (-9223372036854775808 ≤ r.2 ∧ r.2 ≤ 9223372036854775807)) fun x956 hx957 => ?_
 have hx958 : (0 ≤ x956.1.Lo ∧ x956.1.Lo ≤ 18446744073709551615) ∧ (0 ≤ x956.1.Hi ∧ x956.1.Hi ≤ 18446744073709551615) := by rw [← hx957]; exact kind_number_ok a3 ⟨(by omega), (by omega), (by omega)⟩ 
 refine iteR (p := fun r : (TKnown × Int) => (0 ≤ r.1.Kind ∧ r.1.Kind ≤ 255) ∧ (0 ≤ r.1.In.Lo ∧ r.1.In.Lo ≤ 18446744073709551615) ∧ (0 ≤ r.1.In.Hi ∧ r.1.In.Hi ≤ 18446744073709551615) ∧ (-9223372036854775808 ≤ r.2 ∧ r.2 ≤ 9223372036854775807)) (fun hi1014 => ?_) (fun hi1014 => ?_)
 ·
  replace hi1014 : (((x919.2 = true) ∧ (x956.2 = true)) ∧ ((a0 = (4 : Int)) ∨ (a0 = (5 : Int)))) ∧ ((kind_nought x956.1 a1) = true) := ⟨⟨⟨(bAndT (bAndT (bAndT hi1014).1).1).1, (bAndT (bAndT (bAndT hi1014).1).1).2⟩, (orMap (bOrT (bAndT (bAndT hi1014).1).2) (fun h => (bEqT h)) (fun h => (bEqT h)))⟩, (bAndT hi1014).2⟩
  exact (by exact (show (0 ≤ (0 : Int) ∧ (0 : Int) ≤ 255) ∧ (0 ≤ (0 : Int) ∧ (0 : Int) ≤ 18446744073709551615) ∧ (0 ≤ (0 : Int) ∧ (0 : Int) ≤ 18446744073709551615) ∧ (-9223372036854775808 ≤ (113 : Int) ∧ (113 : Int) ≤ 9223372036854775807) from ⟨(by omega), (by omega), (by omega), (by omega)⟩))
 replace hi1014 : (((x919.2 = false) ∨ (x956.2 = false)) ∨ ((a0 ≠ (4 : Int)) ∧ (a0 ≠ (5 : Int)))) ∨ ((kind_nought x956.1 a1) = false) := (orMap (bAndF hi1014) (fun h => (orMap (bAndF h) (fun h => (orMap (bAndF h) (fun h => h) (fun h => h))) (fun h => ⟨(bEqF (bOrF h).1), (bEqF (bOrF h).2)⟩))) (fun h => h))
 refine iteR (p := fun r : (TKnown × Int) => (0 ≤ r.1.Kind ∧ r.1.Kind ≤ 255) ∧ (0 ≤ r.1.In.Lo ∧ r.1.In.Lo ≤ 18446744073709551615) ∧ (0 ≤ r.1.In.Hi ∧ r.1.In.Hi ≤ 18446744073709551615) ∧ (-9223372036854775808 ≤ r.2 ∧ r.2 ≤ 9223372036854775807)) (fun hi1015 => ?_) (fun hi1015 => ?_)
 ·
  replace hi1015 : (x919.2 = true) ∧ (x956.2 = true) := ⟨(bAndT hi1015).1, (bAndT hi1015).2⟩
  refine letR (p := fun r : (TKnown × Int) => (0 ≤ r.1.Kind ∧ r.1.Kind ≤ 255) ∧ (0 ≤ r.1.In.Lo ∧ r.1.In.Lo ≤ 18446744073709551615) ∧ (0 ≤ r.1.In.Hi ∧ r.1.In.Hi ≤ 18446744073709551615) ∧ (-9223372036854775808 ≤ r.2 ∧ r.2 ≤ 9223372036854775807)) fun x1047 hx1048 => ?_
  have hx1049 : (0 ≤ x1047.Lo ∧ x1047.Lo ≤ 18446744073709551615) ∧ (0 ≤ x1047.Hi ∧ x1047.Hi ≤ 18446744073709551615) := by rw [← hx1048]; exact span_Do_ok a0 a1 x919.1 x956.1 (by omega) ⟨(by omega), (by omega)⟩ ⟨(by omega), (by omega)⟩ 
  exact (by exact (show (0 ≤ (1 : Int) ∧ (1 : Int) ≤ 255) ∧ (0 ≤ x1047.Lo ∧ x1047.Lo ≤ 18446744073709551615) ∧ (0 ≤ x1047.Hi ∧ x1047.Hi ≤ 18446744073709551615) ∧ (-9223372036854775808 ≤ (0 : Int) ∧ (0 : Int) ≤ 9223372036854775807) from ⟨(by omega), (by omega), (by omega), (by omega)⟩))
 replace hi1015 : (x919.2 = false) ∨ (x956.2 = false) := (orMap (bAndF hi1015) (fun h => h) (fun h => h))
 refine iteR (p := fun r : (TKnown × Int) => (0 ≤ r.1.Kind ∧ r.1.Kind ≤ 255) ∧ (0 ≤ r.1.In.Lo ∧ r.1.In.Lo ≤ 18446744073709551615) ∧ (0 ≤ r.1.In.Hi ∧ r.1.In.Hi ≤ 18446744073709551615) ∧ (-9223372036854775808 ≤ r.2 ∧ r.2 ≤ 9223372036854775807)) (fun hi1016 => ?_) (fun hi1016 => ?_)
 ·
  replace hi1016 : ((((a0 = (1 : Int)) ∨ (a0 = (2 : Int))) ∧ (a1 = false)) ∧ (x956.2 = true)) ∧ (a2.Kind = (2 : Int)) := ⟨⟨⟨(orMap (bOrT (bAndT (bAndT (bAndT hi1016).1).1).1) (fun h => (bEqT h)) (fun h => (bEqT h))), (bNotT (bAndT (bAndT (bAndT hi1016).1).1).2)⟩, (bAndT (bAndT hi1016).1).2⟩, (bEqT (bAndT hi1016).2)⟩
  exact (by have : (0 ≤ (span_Do a0 false a2.In x956.1).Lo ∧ (span_Do a0 false a2.In x956.1).Lo ≤ 18446744073709551615) ∧ (0 ≤ (span_Do a0 false a2.In x956.1).Hi ∧ (span_Do a0 false a2.In x956.1).Hi ≤ 18446744073709551615) := span_Do_ok a0 false a2.In x956.1 (by omega) ⟨(by omega), (by omega)⟩ ⟨(by omega), (by omega)⟩ ; exact (show (0 ≤ a2.Kind ∧ a2.Kind ≤ 255) ∧ (0 ≤ (span_Do a0 false a2.In x956.1).Lo ∧ (span_Do a0 false a2.In x956.1).Lo ≤ 18446744073709551615) ∧ (0 ≤ (span_Do a0 false a2.In x956.1).Hi ∧ (span_Do a0 false a2.In x956.1).Hi ≤ 18446744073709551615) ∧ (-9223372036854775808 ≤ (0 : Int) ∧ (0 : Int) ≤ 9223372036854775807) from ⟨(by omega), (by omega), (by omega), (by omega)⟩))
 replace hi1016 : ((((a0 ≠ (1 : Int)) ∧ (a0 ≠ (2 : Int))) ∨ (a1 = true)) ∨ (x956.2 = false)) ∨ (a2.Kind ≠ (2 : Int)) := (orMap (bAndF hi1016) (fun h => (orMap (bAndF h) (fun h => (orMap (bAndF h) (fun h => ⟨(bEqF (bOrF h).1), (bEqF (bOrF h).2)⟩) (fun h => (bNotF h)))) (fun h => h))) (fun h => (bEqF h)))
 refine iteR (p := fun r : (TKnown × Int) => (0 ≤ r.1.Kind ∧ r.1.Kind ≤ 255) ∧ (0 ≤ r.1.In.Lo ∧ r.1.In.Lo ≤ 18446744073709551615) ∧ (0 ≤ r.1.In.Hi ∧ r.1.In.Hi ≤ 18446744073709551615) ∧ (-9223372036854775808 ≤ r.2 ∧ r.2 ≤ 9223372036854775807)) (fun hi1017 => ?_) (fun hi1017 => ?_)
 ·
  replace hi1017 : (((((a0 = (1 : Int)) ∨ (a0 = (2 : Int))) ∧ (a1 = false)) ∧ (x956.2 = true)) ∧ (a2.Kind = (3 : Int))) ∧ (x956.1.Lo = x956.1.Hi) := ⟨⟨⟨⟨(orMap (bOrT (bAndT (bAndT (bAndT (bAndT hi1017).1).1).1).1) (fun h => (bEqT h)) (fun h => (bEqT h))), (bNotT (bAndT (bAndT (bAndT (bAndT hi1017).1).1).1).2)⟩, (bAndT (bAndT (bAndT hi1017).1).1).2⟩, (bEqT (bAndT (bAndT hi1017).1).2)⟩, (bEqT (bAndT hi1017).2)⟩
  exact (by have : (0 ≤ (span_Do a0 false a2.In x956.1).Lo ∧ (span_Do a0 false a2.In x956.1).Lo ≤ 18446744073709551615) ∧ (0 ≤ (span_Do a0 false a2.In x956.1).Hi ∧ (span_Do a0 false a2.In x956.1).Hi ≤ 18446744073709551615) := span_Do_ok a0 false a2.In x956.1 (by omega) ⟨(by omega), (by omega)⟩ ⟨(by omega), (by omega)⟩ ; exact (show (0 ≤ a2.Kind ∧ a2.Kind ≤ 255) ∧ (0 ≤ (span_Do a0 false a2.In x956.1).Lo ∧ (span_Do a0 false a2.In x956.1).Lo ≤ 18446744073709551615) ∧ (0 ≤ (span_Do a0 false a2.In x956.1).Hi ∧ (span_Do a0 false a2.In x956.1).Hi ≤ 18446744073709551615) ∧ (-9223372036854775808 ≤ (0 : Int) ∧ (0 : Int) ≤ 9223372036854775807) from ⟨(by omega), (by omega), (by omega), (by omega)⟩))
 replace hi1017 : (((((a0 ≠ (1 : Int)) ∧ (a0 ≠ (2 : Int))) ∨ (a1 = true)) ∨ (x956.2 = false)) ∨ (a2.Kind ≠ (3 : Int))) ∨ (x956.1.Lo ≠ x956.1.Hi) := (orMap (bAndF hi1017) (fun h => (orMap (bAndF h) (fun h => (orMap (bAndF h) (fun h => (orMap (bAndF h) (fun h => ⟨(bEqF (bOrF h).1), (bEqF (bOrF h).2)⟩) (fun h => (bNotF h)))) (fun h => h))) (fun h => (bEqF h)))) (fun h => (bEqF h)))
 exact (by exact (show (0 ≤ (0 : Int) ∧ (0 : Int) ≤ 255) ∧ (0 ≤ (0 : Int) ∧ (0 : Int) ≤ 18446744073709551615) ∧ (0 ≤ (0 : Int) ∧ (0 : Int) ≤ 18446744073709551615) ∧ (-9223372036854775808 ≤ (114 : Int) ∧ (114 : Int) ≤ 9223372036854775807) from ⟨(by omega), (by omega), (by omega), (by omega)⟩))

set_option maxHeartbeats 4000000 in
theorem kind_Do_any (a0 : Int) (a1 : Bool) (a2 : TKnown) (a3 : TKnown)   (w : World)  (_h_a0 : (0 ≤ a0 ∧ a0 ≤ 255)) (_h_a2 : (0 ≤ a2.Kind ∧ a2.Kind ≤ 255) ∧ (0 ≤ a2.In.Lo ∧ a2.In.Lo ≤ 18446744073709551615) ∧ (0 ≤ a2.In.Hi ∧ a2.In.Hi ≤ 18446744073709551615)) (_h_a3 : (0 ≤ a3.Kind ∧ a3.Kind ≤ 255) ∧ (0 ≤ a3.In.Lo ∧ a3.In.Lo ≤ 18446744073709551615) ∧ (0 ≤ a3.In.Hi ∧ a3.In.Hi ≤ 18446744073709551615))  : Calls Try.prog 38 #[.int .u8 a0, .bool a1, .agg #[.int .u8 a2.Kind, .int .u64 a2.In.Lo, .int .u64 a2.In.Hi], .agg #[.int .u8 a3.Kind, .int .u64 a3.In.Lo, .int .u64 a3.In.Hi]] w (RetV w (.tuple #[.agg #[.int .u8 (kind_Do a0 a1 a2 a3).1.Kind, .int .u64 (kind_Do a0 a1 a2 a3).1.In.Lo, .int .u64 (kind_Do a0 a1 a2 a3).1.In.Hi], .int .i64 (kind_Do a0 a1 a2 a3).2])) := by
 have hs := kind_Do.eq_1 a0 a1 a2 a3
 refine calls_of_CW Try.func38 rfl (n := 149) Try.ntmps38 (by kernel_rfl) [0, 1, 2, 3] (F := [(0, .int .u8 a0), (1, .bool a1), (2, .agg #[.int .u8 a2.Kind, .int .u64 a2.In.Lo, .int .u64 a2.In.Hi]), (3, .agg #[.int .u8 a3.Kind, .int .u64 a3.In.Lo, .int .u64 a3.In.Hi])]) (by kernel_rfl) ?_
 refine CW.seq fun K1 hK1 => ?_
 refine CW.region ?_
 refine WR.box (dst := some 6) (e := 56) (v := .agg #[.int .u8 a2.Kind, .int .u64 a2.In.Lo, .int .u64 a2.In.Hi]) (by kernel_rfl) #[.int .u8 a2.Kind, .int .u64 a2.In.Lo, .int .u64 a2.In.Hi] (by kernel_rfl) ?_
 intro g2 w3 hN4
 have hf6 : w.heap.size ≤ g2 := hN4.fresh
 have hfr8 := hN4.fresh
 have hc7 := hN4.chg
 have hz10 := hc7.size
 have hC9 := (Chg.refl [] w).pure hc7
 have hb5 := hN4.blk
 have hg11 := hb5.lt
 refine WR.box (dst := some 7) (e := 56) (v := .agg #[.int .u8 a3.Kind, .int .u64 a3.In.Lo, .int .u64 a3.In.Hi]) (by kernel_rfl) #[.int .u8 a3.Kind, .int .u64 a3.In.Lo, .int .u64 a3.In.Hi] (by kernel_rfl) ?_
 intro g12 w13 hN14
 have hl17 : g2 < g12 := Nat.lt_of_lt_of_le hb5.lt hN14.fresh
 have hf16 : w.heap.size ≤ g12 := Nat.le_trans hC9.size hN14.fresh
 have hfr19 := hN14.fresh
 have hc18 := hN14.chg
 have hz21 := hc18.size
 have hC20 := hC9.pure hc18
 have hb22 := hb5.pure hc18
 have hb15 := hN14.blk
 have hg23 := hb15.lt
 refine WR.alloc (dst := some 8) (e := 56) (by kernel_rfl) #[.int .u8 0, .int .u64 0, .int .u64 0] (by kernel_rfl) ?_
 intro g24 w25 hN26
 have hl29 : g2 < g24 := Nat.lt_of_lt_of_le hb22.lt hN26.fresh
 have hl30 : g12 < g24 := Nat.lt_of_lt_of_le hb15.lt hN26.fresh
 have hf28 : w.heap.size ≤ g24 := Nat.le_trans hC20.size hN26.fresh
 have hfr32 := hN26.fresh
 have hc31 := hN26.chg
 have hz34 := hc31.size
 have hC33 := hC20.pure hc31
 have hb35 := hb22.pure hc31
 have hb36 := hb15.pure hc31
 have hb27 := hN26.blk
 have hg37 := hb27.lt
 refine WR.batch 1 [(0, .int .u8 a0), (1, .bool a1), (6, pt g2 0), (7, pt g12 0), (8, pt g24 0)] (by kernel_rfl) ?_
 refine WR.fin (by kernel_rfl) ?_
 refine go hK1 ?_
 refine CW.seq fun K38 hK38 => ?_
 refine CW.block ?_
 refine CW.seq fun K39 hK39 => ?_
 refine CW.region ?_
 refine WR.batch 3 [(0, .int .u8 a0), (1, .bool a1), (6, pt g2 0), (7, pt g12 0), (8, pt g24 0), (18, .bool (decide (a0 < (1 : Int))))] (by kernel_rfl) ?_
 refine WR.batch 3 [(0, .int .u8 a0), (1, .bool a1), (6, pt g2 0), (7, pt g12 0), (8, pt g24 0), (21, .bool ((decide (a0 < (1 : Int))) || (decide (a0 > (13 : Int)))))] (by generalize decide (a0 < (1 : Int)) = b; cases b <;> kernel_rfl) ?_
 refine WR.batch 1 [(0, .int .u8 a0), (1, .bool a1), (6, pt g2 0), (7, pt g12 0), (8, pt g24 0), (22, .bool ((decide (a0 < (1 : Int))) || (decide (a0 > (13 : Int)))))] (by kernel_rfl) ?_
 refine WR.mergeW 11 [(0, .int .u8 a0), (1, .bool a1), (6, pt g2 0), (7, pt g12 0), (8, pt g24 0), (26, .bool (((decide (a0 < (1 : Int))) || (decide (a0 > (13 : Int)))) || (!(kind_Right a2))))] (fun w' => Chg [] w25 w') (fun Q' => ?_) ?_
 ·
  cases hg40 : ((decide (a0 < (1 : Int))) || (decide (a0 > (13 : Int))))
  ·
   replace hg40 : (¬ (a0 < (1 : Int))) ∧ (¬ (a0 > (13 : Int))) := ⟨(of_decide_eq_false (bOrF hg40).1), (of_decide_eq_false (bOrF hg40).2)⟩
   intro hM41
   refine WR.load (dst := some 23) (t := 56) (o := 0) hb35 (by kernel_rfl) (.agg #[.int .u8 a2.Kind, .int .u64 a2.In.Lo, .int .u64 a2.In.Hi]) (by kernel_rfl) ?_
   refine WR.call (dst := some 24) (by kernel_rfl) (kind_Right_any a2 w25  ⟨(by omega), (by omega), (by omega)⟩ ) ?_
   rintro _ w42 hc43 rfl
   have hz45 := hc43.size
   have hC44 := hC33.pure hc43
   have hb46 := hb35.pure hc43
   have hb47 := hb36.pure hc43
   have hb48 := hb27.pure hc43
   refine WR.batch 2 [(0, .int .u8 a0), (1, .bool a1), (6, pt g2 0), (7, pt g12 0), (8, pt g24 0), (26, .bool (!(kind_Right a2)))] (by kernel_rfl) ?_
   exact WR.keep [0, 1, 6, 7, 8, 26] (by kernel_rfl) (hM41 _ ((Chg.refl [] w25).pure hc43))
  ·
   replace hg40 : (a0 < (1 : Int)) ∨ (a0 > (13 : Int)) := (orMap (bOrT hg40) (fun h => (of_decide_eq_true h)) (fun h => (of_decide_eq_true h)))
   intro hM41
   refine WR.batch 4 [(0, .int .u8 a0), (1, .bool a1), (6, pt g2 0), (7, pt g12 0), (8, pt g24 0), (26, .bool true)] (by kernel_rfl) ?_
   exact WR.keep [0, 1, 6, 7, 8, 26] (by kernel_rfl) (hM41 _ (Chg.refl [] w25))
 intro w49 hc50
 have hz52 := hc50.size
 have hC51 := hC33.pure hc50
 have hb53 := hb35.pure hc50
 have hb54 := hb36.pure hc50
 have hb55 := hb27.pure hc50
 refine WR.batch 1 [(0, .int .u8 a0), (1, .bool a1), (6, pt g2 0), (7, pt g12 0), (8, pt g24 0), (27, .bool (((decide (a0 < (1 : Int))) || (decide (a0 > (13 : Int)))) || (!(kind_Right a2))))] (by kernel_rfl) ?_
 refine WR.mergeW 16 [(0, .int .u8 a0), (1, .bool a1), (6, pt g2 0), (7, pt g12 0), (8, pt g24 0), (31, .bool ((((decide (a0 < (1 : Int))) || (decide (a0 > (13 : Int)))) || (!(kind_Right a2))) || (!(kind_Right a3))))] (fun w' => Chg [] w49 w') (fun Q' => ?_) ?_
 ·
  cases hg56 : (((decide (a0 < (1 : Int))) || (decide (a0 > (13 : Int)))) || (!(kind_Right a2)))
  ·
   replace hg56 : ((¬ (a0 < (1 : Int))) ∧ (¬ (a0 > (13 : Int)))) ∧ ((kind_Right a2) = true) := ⟨⟨(of_decide_eq_false (bOrF (bOrF hg56).1).1), (of_decide_eq_false (bOrF (bOrF hg56).1).2)⟩, (bNotF (bOrF hg56).2)⟩
   intro hM57
   refine WR.load (dst := some 28) (t := 56) (o := 0) hb54 (by kernel_rfl) (.agg #[.int .u8 a3.Kind, .int .u64 a3.In.Lo, .int .u64 a3.In.Hi]) (by kernel_rfl) ?_
   refine WR.call (dst := some 29) (by kernel_rfl) (kind_Right_any a3 w49  ⟨(by omega), (by omega), (by omega)⟩ ) ?_
   rintro _ w58 hc59 rfl
   have hz61 := hc59.size
   have hC60 := hC51.pure hc59
   have hb62 := hb53.pure hc59
   have hb63 := hb54.pure hc59
   have hb64 := hb55.pure hc59
   refine WR.batch 2 [(0, .int .u8 a0), (1, .bool a1), (6, pt g2 0), (7, pt g12 0), (8, pt g24 0), (31, .bool (!(kind_Right a3)))] (by kernel_rfl) ?_
   exact WR.keep [0, 1, 6, 7, 8, 31] (by kernel_rfl) (hM57 _ ((Chg.refl [] w49).pure hc59))
  ·
   replace hg56 : ((a0 < (1 : Int)) ∨ (a0 > (13 : Int))) ∨ ((kind_Right a2) = false) := (orMap (bOrT hg56) (fun h => (orMap (bOrT h) (fun h => (of_decide_eq_true h)) (fun h => (of_decide_eq_true h)))) (fun h => (bNotT h)))
   intro hM57
   refine WR.batch 4 [(0, .int .u8 a0), (1, .bool a1), (6, pt g2 0), (7, pt g12 0), (8, pt g24 0), (31, .bool true)] (by kernel_rfl) ?_
   exact WR.keep [0, 1, 6, 7, 8, 31] (by kernel_rfl) (hM57 _ (Chg.refl [] w49))
 intro w65 hc66
 have hz68 := hc66.size
 have hC67 := hC51.pure hc66
 have hb69 := hb53.pure hc66
 have hb70 := hb54.pure hc66
 have hb71 := hb55.pure hc66
 refine WR.batch 1 [(0, .int .u8 a0), (1, .bool a1), (6, pt g2 0), (7, pt g12 0), (8, pt g24 0), (15, .bool ((((decide (a0 < (1 : Int))) || (decide (a0 > (13 : Int)))) || (!(kind_Right a2))) || (!(kind_Right a3))))] (by kernel_rfl) ?_
 refine WR.fin (by kernel_rfl) ?_
 refine go hK39 ?_
 refine CW.cond (((((decide (a0 < (1 : Int))) || (decide (a0 > (13 : Int)))) || (!(kind_Right a2))) || (!(kind_Right a3)))) (by kernel_rfl) (fun ht72 => ?_) (fun ht72 => ?_)
 ·
  have hs73 := ifT ht72 hs
  replace ht72 : (((a0 < (1 : Int)) ∨ (a0 > (13 : Int))) ∨ ((kind_Right a2) = false)) ∨ ((kind_Right a3) = false) := (orMap (bOrT ht72) (fun h => (orMap (bOrT h) (fun h => (orMap (bOrT h) (fun h => (of_decide_eq_true h)) (fun h => (of_decide_eq_true h)))) (fun h => (bNotT h)))) (fun h => (bNotT h)))
  refine CW.seq fun K74 hK74 => ?_
  refine CW.region ?_
  refine WR.batch 1 [(8, pt g24 0), (32, .agg #[.int .u8 0, .int .u64 0, .int .u64 0])] (by kernel_rfl) ?_
  refine WR.store (t := 56) (o := 0) (v := .agg #[.int .u8 0, .int .u64 0, .int .u64 0]) hb71 (by kernel_rfl) #[.int .u8 0, .int .u64 0, .int .u64 0] (by kernel_rfl) ?_
  intro w75 hb76 hc77
  have hz79 := hc77.size
  have hC78 := hC67.step1 hc77 (by omega)
  have hb80 := hb69.chg1 hc77 (by omega)
  have hb81 := hb70.chg1 hc77 (by omega)
  refine WR.batch 1 [(8, pt g24 0), (9, .int .i64 2)] (by kernel_rfl) ?_
  refine WR.fin (by kernel_rfl) ?_
  refine go hK74 ?_
  refine CW.ret ?_
  exact retC [.agg #[.int .u8 0, .int .u64 0, .int .u64 0], .int .i64 2] (.tuple #[.agg #[.int .u8 0, .int .u64 0, .int .u64 0], .int .i64 2]) rfl ⟨resCell hb76 rfl (by kernel_rfl), rfl, trivial⟩ (⟨hC78, (congrArg (fun r : (TKnown × Int) => (.tuple #[.agg #[.int .u8 r.1.Kind, .int .u64 r.1.In.Lo, .int .u64 r.1.In.Hi], .int .i64 r.2] : Value)) hs73).symm⟩)
 have hs82 := ifF ht72 hs
 replace ht72 : (((¬ (a0 < (1 : Int))) ∧ (¬ (a0 > (13 : Int)))) ∧ ((kind_Right a2) = true)) ∧ ((kind_Right a3) = true) := ⟨⟨⟨(of_decide_eq_false (bOrF (bOrF (bOrF ht72).1).1).1), (of_decide_eq_false (bOrF (bOrF (bOrF ht72).1).1).2)⟩, (bNotF (bOrF (bOrF ht72).1).2)⟩, (bNotF (bOrF ht72).2)⟩
 refine CW.seq fun K83 hK83 => ?_
 refine CW.region ?_
 refine WR.batch 3 [(0, .int .u8 a0), (1, .bool a1), (6, pt g2 0), (7, pt g12 0), (8, pt g24 0), (36, .bool (a0 != (12 : Int)))] (by kernel_rfl) ?_
 refine WR.mergeW 7 [(0, .int .u8 a0), (1, .bool a1), (6, pt g2 0), (7, pt g12 0), (8, pt g24 0), (40, .bool ((a0 != (12 : Int)) && (a2.Kind == (0 : Int))))] (fun w' => Chg [] w65 w') (fun Q' => ?_) ?_
 ·
  cases hg84 : (a0 != (12 : Int))
  ·
   replace hg84 : a0 = (12 : Int) := (bNeF hg84)
   intro hM85
   refine WR.batch 4 [(0, .int .u8 a0), (1, .bool a1), (6, pt g2 0), (7, pt g12 0), (8, pt g24 0), (40, .bool false)] (by kernel_rfl) ?_
   exact WR.keep [0, 1, 6, 7, 8, 40] (by kernel_rfl) (hM85 _ (Chg.refl [] w65))
  ·
   replace hg84 : a0 ≠ (12 : Int) := (bNeT hg84)
   intro hM85
   refine WR.batch 1 [(0, .int .u8 a0), (1, .bool a1), (6, pt g2 0), (7, pt g12 0), (8, pt g24 0), (36, .bool true), (37, pt g2 0)] (by kernel_rfl) ?_
   refine WR.load (dst := some 38) (t := 54) (o := 0) hb69 (by kernel_rfl) (.int .u8 a2.Kind) (by kernel_rfl) ?_
   refine WR.batch 2 [(0, .int .u8 a0), (1, .bool a1), (6, pt g2 0), (7, pt g12 0), (8, pt g24 0), (40, .bool (a2.Kind == (0 : Int)))] (by kernel_rfl) ?_
   exact WR.keep [0, 1, 6, 7, 8, 40] (by kernel_rfl) (hM85 _ (Chg.refl [] w65))
 intro w86 hc87
 have hz89 := hc87.size
 have hC88 := hC67.pure hc87
 have hb90 := hb69.pure hc87
 have hb91 := hb70.pure hc87
 have hb92 := hb71.pure hc87
 refine WR.batch 1 [(0, .int .u8 a0), (1, .bool a1), (6, pt g2 0), (7, pt g12 0), (8, pt g24 0), (41, .bool ((a0 != (12 : Int)) && (a2.Kind == (0 : Int))))] (by kernel_rfl) ?_
 refine WR.mergeW 16 [(0, .int .u8 a0), (1, .bool a1), (6, pt g2 0), (7, pt g12 0), (8, pt g24 0), (49, .bool (((a0 != (12 : Int)) && (a2.Kind == (0 : Int))) || ((a0 != (13 : Int)) && (a3.Kind == (0 : Int)))))] (fun w' => Chg [] w86 w') (fun Q' => ?_) ?_
 ·
  cases hg93 : ((a0 != (12 : Int)) && (a2.Kind == (0 : Int)))
  ·
   replace hg93 : (a0 = (12 : Int)) ∨ (a2.Kind ≠ (0 : Int)) := (orMap (bAndF hg93) (fun h => (bNeF h)) (fun h => (bEqF h)))
   intro hM94
   refine WR.batch 3 [(0, .int .u8 a0), (1, .bool a1), (6, pt g2 0), (7, pt g12 0), (8, pt g24 0), (41, .bool false), (44, .bool (a0 != (13 : Int)))] (by kernel_rfl) ?_
   refine WR.mergeW 15 [(0, .int .u8 a0), (1, .bool a1), (6, pt g2 0), (7, pt g12 0), (8, pt g24 0), (41, .bool false), (48, .bool ((a0 != (13 : Int)) && (a3.Kind == (0 : Int))))] (fun w' => Chg [] w86 w') (fun Q' => ?_) ?_
   ·
    cases hg95 : (a0 != (13 : Int))
    ·
     replace hg95 : a0 = (13 : Int) := (bNeF hg95)
     intro hM96
     refine WR.batch 4 [(0, .int .u8 a0), (1, .bool a1), (6, pt g2 0), (7, pt g12 0), (8, pt g24 0), (41, .bool false), (48, .bool false)] (by kernel_rfl) ?_
     exact WR.keep [0, 1, 6, 7, 8, 41, 48] (by kernel_rfl) (hM96 _ (Chg.refl [] w86))
    ·
     replace hg95 : a0 ≠ (13 : Int) := (bNeT hg95)
     intro hM96
     refine WR.batch 1 [(0, .int .u8 a0), (1, .bool a1), (6, pt g2 0), (7, pt g12 0), (8, pt g24 0), (41, .bool false), (44, .bool true), (45, pt g12 0)] (by kernel_rfl) ?_
     refine WR.load (dst := some 46) (t := 54) (o := 0) hb91 (by kernel_rfl) (.int .u8 a3.Kind) (by kernel_rfl) ?_
     refine WR.batch 2 [(0, .int .u8 a0), (1, .bool a1), (6, pt g2 0), (7, pt g12 0), (8, pt g24 0), (41, .bool false), (48, .bool (a3.Kind == (0 : Int)))] (by kernel_rfl) ?_
     exact WR.keep [0, 1, 6, 7, 8, 41, 48] (by kernel_rfl) (hM96 _ (Chg.refl [] w86))
   intro w97 hc98
   have hz100 := hc98.size
   have hC99 := hC88.pure hc98
   have hb101 := hb90.pure hc98
   have hb102 := hb91.pure hc98
   have hb103 := hb92.pure hc98
   refine WR.batch 1 [(0, .int .u8 a0), (1, .bool a1), (6, pt g2 0), (7, pt g12 0), (8, pt g24 0), (49, .bool ((a0 != (13 : Int)) && (a3.Kind == (0 : Int))))] (by kernel_rfl) ?_
   exact WR.keep [0, 1, 6, 7, 8, 49] (by kernel_rfl) (hM94 _ ((Chg.refl [] w86).pure hc98))
  ·
   replace hg93 : (a0 ≠ (12 : Int)) ∧ (a2.Kind = (0 : Int)) := ⟨(bNeT (bAndT hg93).1), (bEqT (bAndT hg93).2)⟩
   intro hM94
   refine WR.batch 8 [(0, .int .u8 a0), (1, .bool a1), (6, pt g2 0), (7, pt g12 0), (8, pt g24 0), (49, .bool true)] (by kernel_rfl) ?_
   exact WR.keep [0, 1, 6, 7, 8, 49] (by kernel_rfl) (hM94 _ (Chg.refl [] w86))
 intro w104 hc105
 have hz107 := hc105.size
 have hC106 := hC88.pure hc105
 have hb108 := hb90.pure hc105
 have hb109 := hb91.pure hc105
 have hb110 := hb92.pure hc105
 refine WR.batch 1 [(0, .int .u8 a0), (1, .bool a1), (6, pt g2 0), (7, pt g12 0), (8, pt g24 0), (33, .bool (((a0 != (12 : Int)) && (a2.Kind == (0 : Int))) || ((a0 != (13 : Int)) && (a3.Kind == (0 : Int)))))] (by kernel_rfl) ?_
 refine WR.fin (by kernel_rfl) ?_
 refine go hK83 ?_
 refine CW.cond ((((a0 != (12 : Int)) && (a2.Kind == (0 : Int))) || ((a0 != (13 : Int)) && (a3.Kind == (0 : Int))))) (by kernel_rfl) (fun ht111 => ?_) (fun ht111 => ?_)
 ·
  have hs112 := ifT ht111 hs82
  replace ht111 : ((a0 ≠ (12 : Int)) ∧ (a2.Kind = (0 : Int))) ∨ ((a0 ≠ (13 : Int)) ∧ (a3.Kind = (0 : Int))) := (orMap (bOrT ht111) (fun h => ⟨(bNeT (bAndT h).1), (bEqT (bAndT h).2)⟩) (fun h => ⟨(bNeT (bAndT h).1), (bEqT (bAndT h).2)⟩))
  refine CW.seq fun K113 hK113 => ?_
  refine CW.region ?_
  refine WR.batch 1 [(8, pt g24 0), (50, .agg #[.int .u8 0, .int .u64 0, .int .u64 0])] (by kernel_rfl) ?_
  refine WR.store (t := 56) (o := 0) (v := .agg #[.int .u8 0, .int .u64 0, .int .u64 0]) hb110 (by kernel_rfl) #[.int .u8 0, .int .u64 0, .int .u64 0] (by kernel_rfl) ?_
  intro w114 hb115 hc116
  have hz118 := hc116.size
  have hC117 := hC106.step1 hc116 (by omega)
  have hb119 := hb108.chg1 hc116 (by omega)
  have hb120 := hb109.chg1 hc116 (by omega)
  refine WR.batch 1 [(8, pt g24 0), (9, .int .i64 110)] (by kernel_rfl) ?_
  refine WR.fin (by kernel_rfl) ?_
  refine go hK113 ?_
  refine CW.ret ?_
  exact retC [.agg #[.int .u8 0, .int .u64 0, .int .u64 0], .int .i64 110] (.tuple #[.agg #[.int .u8 0, .int .u64 0, .int .u64 0], .int .i64 110]) rfl ⟨resCell hb115 rfl (by kernel_rfl), rfl, trivial⟩ (⟨hC117, (congrArg (fun r : (TKnown × Int) => (.tuple #[.agg #[.int .u8 r.1.Kind, .int .u64 r.1.In.Lo, .int .u64 r.1.In.Hi], .int .i64 r.2] : Value)) hs112).symm⟩)
 have hs121 := ifF ht111 hs82
 replace ht111 : ((a0 = (12 : Int)) ∨ (a2.Kind ≠ (0 : Int))) ∧ ((a0 = (13 : Int)) ∨ (a3.Kind ≠ (0 : Int))) := ⟨(orMap (bAndF (bOrF ht111).1) (fun h => (bNeF h)) (fun h => (bEqF h))), (orMap (bAndF (bOrF ht111).2) (fun h => (bNeF h)) (fun h => (bEqF h)))⟩
 refine CW.seq fun K122 hK122 => ?_
 refine CW.region ?_
 refine WR.batch 3 [(0, .int .u8 a0), (1, .bool a1), (6, pt g2 0), (7, pt g12 0), (8, pt g24 0), (54, .bool (a0 == (12 : Int)))] (by kernel_rfl) ?_
 refine WR.batch 3 [(0, .int .u8 a0), (1, .bool a1), (6, pt g2 0), (7, pt g12 0), (8, pt g24 0), (57, .bool ((a0 == (12 : Int)) && (!a1)))] (by generalize (a0 == (12 : Int)) = b; cases b <;> kernel_rfl) ?_
 refine WR.batch 1 [(0, .int .u8 a0), (1, .bool a1), (6, pt g2 0), (7, pt g12 0), (8, pt g24 0), (51, .bool ((a0 == (12 : Int)) && (!a1)))] (by kernel_rfl) ?_
 refine WR.fin (by kernel_rfl) ?_
 refine go hK122 ?_
 refine CW.cond (((a0 == (12 : Int)) && (!a1))) (by kernel_rfl) (fun ht123 => ?_) (fun ht123 => ?_)
 ·
  have hs124 := ifT ht123 hs121
  replace ht123 : (a0 = (12 : Int)) ∧ (a1 = false) := ⟨(bEqT (bAndT ht123).1), (bNotT (bAndT ht123).2)⟩
  refine CW.seq fun K125 hK125 => ?_
  refine CW.region ?_
  refine WR.load (dst := some 58) (t := 56) (o := 0) hb109 (by kernel_rfl) (.agg #[.int .u8 a3.Kind, .int .u64 a3.In.Lo, .int .u64 a3.In.Hi]) (by kernel_rfl) ?_
  refine WR.store (t := 56) (o := 0) (v := .agg #[.int .u8 a3.Kind, .int .u64 a3.In.Lo, .int .u64 a3.In.Hi]) hb110 (by kernel_rfl) #[.int .u8 a3.Kind, .int .u64 a3.In.Lo, .int .u64 a3.In.Hi] (by kernel_rfl) ?_
  intro w126 hb127 hc128
  have hz130 := hc128.size
  have hC129 := hC106.step1 hc128 (by omega)
  have hb131 := hb108.chg1 hc128 (by omega)
  have hb132 := hb109.chg1 hc128 (by omega)
  refine WR.batch 1 [(8, pt g24 0), (9, .int .i64 0)] (by kernel_rfl) ?_
  refine WR.fin (by kernel_rfl) ?_
  refine go hK125 ?_
  refine CW.ret ?_
  exact retC [.agg #[.int .u8 a3.Kind, .int .u64 a3.In.Lo, .int .u64 a3.In.Hi], .int .i64 0] (.tuple #[.agg #[.int .u8 a3.Kind, .int .u64 a3.In.Lo, .int .u64 a3.In.Hi], .int .i64 0]) rfl ⟨resCell hb127 rfl (by kernel_rfl), rfl, trivial⟩ (⟨hC129, (congrArg (fun r : (TKnown × Int) => (.tuple #[.agg #[.int .u8 r.1.Kind, .int .u64 r.1.In.Lo, .int .u64 r.1.In.Hi], .int .i64 r.2] : Value)) hs124).symm⟩)
 have hs133 := ifF ht123 hs121
 replace ht123 : (a0 ≠ (12 : Int)) ∨ (a1 = true) := (orMap (bAndF ht123) (fun h => (bEqF h)) (fun h => (bNotF h)))
 refine CW.seq fun K134 hK134 => ?_
 refine CW.region ?_
 refine WR.batch 3 [(0, .int .u8 a0), (1, .bool a1), (6, pt g2 0), (7, pt g12 0), (8, pt g24 0), (59, .bool (a0 == (12 : Int)))] (by kernel_rfl) ?_
 refine WR.fin (by kernel_rfl) ?_
 refine go hK134 ?_
 refine CW.cond ((a0 == (12 : Int))) (by kernel_rfl) (fun ht135 => ?_) (fun ht135 => ?_)
 ·
  have hs136 := ifT ht135 hs133
  replace ht135 : a0 = (12 : Int) := (bEqT ht135)
  refine CW.region ?_
  refine WR.load (dst := some 62) (t := 56) (o := 0) hb109 (by kernel_rfl) (.agg #[.int .u8 a3.Kind, .int .u64 a3.In.Lo, .int .u64 a3.In.Hi]) (by kernel_rfl) ?_
  refine WR.store (t := 56) (o := 0) (v := .agg #[.int .u8 a3.Kind, .int .u64 a3.In.Lo, .int .u64 a3.In.Hi]) hb108 (by kernel_rfl) #[.int .u8 a3.Kind, .int .u64 a3.In.Lo, .int .u64 a3.In.Hi] (by kernel_rfl) ?_
  intro w137 hb138 hc139
  have hz141 := hc139.size
  have hC140 := hC106.step1 hc139 (by omega)
  have hb142 := hb109.chg1 hc139 (by omega)
  have hb143 := hb110.chg1 hc139 (by omega)
  refine WR.fin (by kernel_rfl) ?_
  refine go hK38 ?_
  refine CW.seq fun K144 hK144 => ?_
  refine CW.region ?_
  refine WR.load (dst := some 68) (t := 56) (o := 0) hb138 (by kernel_rfl) (.agg #[.int .u8 a3.Kind, .int .u64 a3.In.Lo, .int .u64 a3.In.Hi]) (by kernel_rfl) ?_
  obtain ⟨x145, hx146⟩ : ∃ x, kind_number a3 = x := ⟨_, rfl⟩
  have hs148 := letS hx146 hs136
  have hx149 : (0 ≤ x145.1.Lo ∧ x145.1.Lo ≤ 18446744073709551615) ∧ (0 ≤ x145.1.Hi ∧ x145.1.Hi ≤ 18446744073709551615) := by rw [← hx146]; exact kind_number_ok a3 ⟨(by omega), (by omega), (by omega)⟩ 
  refine WR.call (dst := some 69) (by kernel_rfl) (retE (g := fun r : (TSpan × Bool) => (.tuple #[.agg #[.int .u64 r.1.Lo, .int .u64 r.1.Hi], .bool r.2] : Value)) hx146 (kind_number_any a3 w137  ⟨(by omega), (by omega), (by omega)⟩ )) ?_
  rintro _ w150 hc151 rfl
  have hz153 := hc151.size
  have hC152 := hC140.pure hc151
  have hb154 := hb138.pure hc151
  have hb155 := hb142.pure hc151
  have hb156 := hb143.pure hc151
  refine WR.batch 3 [(0, .int .u8 a0), (1, .bool a1), (6, pt g2 0), (7, pt g12 0), (8, pt g24 0), (70, .agg #[.int .u64 x145.1.Lo, .int .u64 x145.1.Hi]), (71, .bool x145.2)] (by kernel_rfl) ?_
  refine WR.alloc (dst := some 10) (e := 25) (by kernel_rfl) #[.int .u64 0, .int .u64 0] (by kernel_rfl) ?_
  intro g157 w158 hN159
  have hl162 : g2 < g157 := Nat.lt_of_lt_of_le hb154.lt hN159.fresh
  have hl163 : g12 < g157 := Nat.lt_of_lt_of_le hb155.lt hN159.fresh
  have hl164 : g24 < g157 := Nat.lt_of_lt_of_le hb156.lt hN159.fresh
  have hf161 : w.heap.size ≤ g157 := Nat.le_trans hC152.size hN159.fresh
  have hfr166 := hN159.fresh
  have hc165 := hN159.chg
  have hz168 := hc165.size
  have hC167 := hC152.pure hc165
  have hb169 := hb154.pure hc165
  have hb170 := hb155.pure hc165
  have hb171 := hb156.pure hc165
  have hb160 := hN159.blk
  have hg172 := hb160.lt
  refine WR.store (t := 25) (o := 0) (v := .agg #[.int .u64 x145.1.Lo, .int .u64 x145.1.Hi]) hb160 (by kernel_rfl) #[.int .u64 x145.1.Lo, .int .u64 x145.1.Hi] (by kernel_rfl) ?_
  intro w173 hb174 hc175
  have hz177 := hc175.size
  have hC176 := hC167.step1 hc175 (by omega)
  have hb178 := hb169.chg1 hc175 (by omega)
  have hb179 := hb170.chg1 hc175 (by omega)
  have hb180 := hb171.chg1 hc175 (by omega)
  refine WR.batch 1 [(0, .int .u8 a0), (1, .bool a1), (6, pt g2 0), (7, pt g12 0), (8, pt g24 0), (10, pt g157 0), (11, .bool x145.2)] (by kernel_rfl) ?_
  refine WR.fin (by kernel_rfl) ?_
  refine go hK144 ?_
  refine CW.seq fun K181 hK181 => ?_
  refine CW.region ?_
  refine WR.load (dst := some 73) (t := 56) (o := 0) hb179 (by kernel_rfl) (.agg #[.int .u8 a3.Kind, .int .u64 a3.In.Lo, .int .u64 a3.In.Hi]) (by kernel_rfl) ?_
  obtain ⟨x182, hx183⟩ : ∃ x, kind_number a3 = x := ⟨_, rfl⟩
  have hs185 := letS hx183 hs148
  have hx186 : (0 ≤ x182.1.Lo ∧ x182.1.Lo ≤ 18446744073709551615) ∧ (0 ≤ x182.1.Hi ∧ x182.1.Hi ≤ 18446744073709551615) := by rw [← hx183]; exact kind_number_ok a3 ⟨(by omega), (by omega), (by omega)⟩ 
  refine WR.call (dst := some 74) (by kernel_rfl) (retE (g := fun r : (TSpan × Bool) => (.tuple #[.agg #[.int .u64 r.1.Lo, .int .u64 r.1.Hi], .bool r.2] : Value)) hx183 (kind_number_any a3 w173  ⟨(by omega), (by omega), (by omega)⟩ )) ?_
  rintro _ w187 hc188 rfl
  have hz190 := hc188.size
  have hC189 := hC176.pure hc188
  have hb191 := hb178.pure hc188
  have hb192 := hb179.pure hc188
  have hb193 := hb180.pure hc188
  have hb194 := hb174.pure hc188
  refine WR.batch 3 [(0, .int .u8 a0), (1, .bool a1), (6, pt g2 0), (8, pt g24 0), (10, pt g157 0), (11, .bool x145.2), (75, .agg #[.int .u64 x182.1.Lo, .int .u64 x182.1.Hi]), (76, .bool x182.2)] (by kernel_rfl) ?_
  refine WR.alloc (dst := some 12) (e := 25) (by kernel_rfl) #[.int .u64 0, .int .u64 0] (by kernel_rfl) ?_
  intro g195 w196 hN197
  have hl200 : g2 < g195 := Nat.lt_of_lt_of_le hb191.lt hN197.fresh
  have hl201 : g12 < g195 := Nat.lt_of_lt_of_le hb192.lt hN197.fresh
  have hl202 : g24 < g195 := Nat.lt_of_lt_of_le hb193.lt hN197.fresh
  have hl203 : g157 < g195 := Nat.lt_of_lt_of_le hb194.lt hN197.fresh
  have hf199 : w.heap.size ≤ g195 := Nat.le_trans hC189.size hN197.fresh
  have hfr205 := hN197.fresh
  have hc204 := hN197.chg
  have hz207 := hc204.size
  have hC206 := hC189.pure hc204
  have hb208 := hb191.pure hc204
  have hb209 := hb192.pure hc204
  have hb210 := hb193.pure hc204
  have hb211 := hb194.pure hc204
  have hb198 := hN197.blk
  have hg212 := hb198.lt
  refine WR.store (t := 25) (o := 0) (v := .agg #[.int .u64 x182.1.Lo, .int .u64 x182.1.Hi]) hb198 (by kernel_rfl) #[.int .u64 x182.1.Lo, .int .u64 x182.1.Hi] (by kernel_rfl) ?_
  intro w213 hb214 hc215
  have hz217 := hc215.size
  have hC216 := hC206.step1 hc215 (by omega)
  have hb218 := hb208.chg1 hc215 (by omega)
  have hb219 := hb209.chg1 hc215 (by omega)
  have hb220 := hb210.chg1 hc215 (by omega)
  have hb221 := hb211.chg1 hc215 (by omega)
  refine WR.batch 1 [(0, .int .u8 a0), (1, .bool a1), (6, pt g2 0), (8, pt g24 0), (10, pt g157 0), (11, .bool x145.2), (12, pt g195 0), (13, .bool x182.2)] (by kernel_rfl) ?_
  refine WR.fin (by kernel_rfl) ?_
  refine go hK181 ?_
  refine CW.seq fun K222 hK222 => ?_
  refine CW.region ?_
  refine WR.batch 3 [(0, .int .u8 a0), (1, .bool a1), (6, pt g2 0), (8, pt g24 0), (10, pt g157 0), (11, .bool x145.2), (12, pt g195 0), (13, .bool x182.2), (79, .bool (a0 == (1 : Int)))] (by kernel_rfl) ?_
  refine WR.batch 3 [(0, .int .u8 a0), (1, .bool a1), (6, pt g2 0), (8, pt g24 0), (10, pt g157 0), (11, .bool x145.2), (12, pt g195 0), (13, .bool x182.2), (82, .bool ((a0 == (1 : Int)) || (a0 == (2 : Int))))] (by generalize (a0 == (1 : Int)) = b; cases b <;> kernel_rfl) ?_
  refine WR.batch 1 [(0, .int .u8 a0), (1, .bool a1), (6, pt g2 0), (8, pt g24 0), (10, pt g157 0), (11, .bool x145.2), (12, pt g195 0), (13, .bool x182.2), (83, .bool ((a0 == (1 : Int)) || (a0 == (2 : Int))))] (by kernel_rfl) ?_
  refine WR.batch 3 [(0, .int .u8 a0), (1, .bool a1), (6, pt g2 0), (8, pt g24 0), (10, pt g157 0), (11, .bool x145.2), (12, pt g195 0), (13, .bool x182.2), (86, .bool (((a0 == (1 : Int)) || (a0 == (2 : Int))) && (!a1)))] (by generalize ((a0 == (1 : Int)) || (a0 == (2 : Int))) = b; cases b <;> kernel_rfl) ?_
  refine WR.batch 1 [(0, .int .u8 a0), (1, .bool a1), (6, pt g2 0), (8, pt g24 0), (10, pt g157 0), (11, .bool x145.2), (12, pt g195 0), (13, .bool x182.2), (87, .bool (((a0 == (1 : Int)) || (a0 == (2 : Int))) && (!a1)))] (by kernel_rfl) ?_
  refine WR.batch 2 [(0, .int .u8 a0), (1, .bool a1), (6, pt g2 0), (8, pt g24 0), (10, pt g157 0), (11, .bool x145.2), (12, pt g195 0), (13, .bool x182.2), (89, .bool ((((a0 == (1 : Int)) || (a0 == (2 : Int))) && (!a1)) && x182.2))] (by generalize (((a0 == (1 : Int)) || (a0 == (2 : Int))) && (!a1)) = b; cases b <;> kernel_rfl) ?_
  refine WR.batch 1 [(0, .int .u8 a0), (1, .bool a1), (6, pt g2 0), (8, pt g24 0), (10, pt g157 0), (11, .bool x145.2), (12, pt g195 0), (13, .bool x182.2), (14, .bool ((((a0 == (1 : Int)) || (a0 == (2 : Int))) && (!a1)) && x182.2))] (by kernel_rfl) ?_
  refine WR.fin (by kernel_rfl) ?_
  refine go hK222 ?_
  refine CW.seq fun K223 hK223 => ?_
  refine CW.block ?_
  refine CW.seq fun K224 hK224 => ?_
  refine CW.region ?_
  refine WR.batch 2 [(0, .int .u8 a0), (1, .bool a1), (6, pt g2 0), (8, pt g24 0), (10, pt g157 0), (11, .bool x145.2), (12, pt g195 0), (13, .bool x182.2), (14, .bool ((((a0 == (1 : Int)) || (a0 == (2 : Int))) && (!a1)) && x182.2)), (92, .bool x145.2)] (by kernel_rfl) ?_
  refine WR.batch 2 [(0, .int .u8 a0), (1, .bool a1), (6, pt g2 0), (8, pt g24 0), (10, pt g157 0), (11, .bool x145.2), (12, pt g195 0), (13, .bool x182.2), (14, .bool ((((a0 == (1 : Int)) || (a0 == (2 : Int))) && (!a1)) && x182.2)), (94, .bool (x145.2 && x182.2))] (by generalize x145.2 = b; cases b <;> kernel_rfl) ?_
  refine WR.batch 1 [(0, .int .u8 a0), (1, .bool a1), (6, pt g2 0), (8, pt g24 0), (10, pt g157 0), (11, .bool x145.2), (12, pt g195 0), (13, .bool x182.2), (14, .bool ((((a0 == (1 : Int)) || (a0 == (2 : Int))) && (!a1)) && x182.2)), (95, .bool (x145.2 && x182.2))] (by kernel_rfl) ?_
  refine WR.mergeW 12 [(0, .int .u8 a0), (1, .bool a1), (6, pt g2 0), (8, pt g24 0), (10, pt g157 0), (11, .bool x145.2), (12, pt g195 0), (13, .bool x182.2), (14, .bool ((((a0 == (1 : Int)) || (a0 == (2 : Int))) && (!a1)) && x182.2)), (102, .bool ((x145.2 && x182.2) && ((a0 == (4 : Int)) || (a0 == (5 : Int)))))] (fun w' => Chg [] w213 w') (fun Q' => ?_) ?_
  ·
   cases hg225 : (x145.2 && x182.2)
   ·
    replace hg225 : (x145.2 = false) ∨ (x182.2 = false) := (orMap (bAndF hg225) (fun h => h) (fun h => h))
    intro hM226
    refine WR.batch 7 [(0, .int .u8 a0), (1, .bool a1), (6, pt g2 0), (8, pt g24 0), (10, pt g157 0), (11, .bool x145.2), (12, pt g195 0), (13, .bool x182.2), (14, .bool ((((a0 == (1 : Int)) || (a0 == (2 : Int))) && (!a1)) && x182.2)), (102, .bool false)] (by kernel_rfl) ?_
    exact WR.keep [0, 1, 6, 8, 10, 11, 12, 13, 14, 102] (by kernel_rfl) (hM226 _ (Chg.refl [] w213))
   ·
    replace hg225 : (x145.2 = true) ∧ (x182.2 = true) := ⟨(bAndT hg225).1, (bAndT hg225).2⟩
    intro hM226
    refine WR.batch 3 [(0, .int .u8 a0), (1, .bool a1), (6, pt g2 0), (8, pt g24 0), (10, pt g157 0), (11, .bool x145.2), (12, pt g195 0), (13, .bool x182.2), (14, .bool ((((a0 == (1 : Int)) || (a0 == (2 : Int))) && (!a1)) && x182.2)), (95, .bool true), (98, .bool (a0 == (4 : Int)))] (by kernel_rfl) ?_
    refine WR.batch 3 [(0, .int .u8 a0), (1, .bool a1), (6, pt g2 0), (8, pt g24 0), (10, pt g157 0), (11, .bool x145.2), (12, pt g195 0), (13, .bool x182.2), (14, .bool ((((a0 == (1 : Int)) || (a0 == (2 : Int))) && (!a1)) && x182.2)), (95, .bool true), (101, .bool ((a0 == (4 : Int)) || (a0 == (5 : Int))))] (by generalize (a0 == (4 : Int)) = b; cases b <;> kernel_rfl) ?_
    refine WR.batch 1 [(0, .int .u8 a0), (1, .bool a1), (6, pt g2 0), (8, pt g24 0), (10, pt g157 0), (11, .bool x145.2), (12, pt g195 0), (13, .bool x182.2), (14, .bool ((((a0 == (1 : Int)) || (a0 == (2 : Int))) && (!a1)) && x182.2)), (102, .bool ((a0 == (4 : Int)) || (a0 == (5 : Int))))] (by kernel_rfl) ?_
    exact WR.keep [0, 1, 6, 8, 10, 11, 12, 13, 14, 102] (by kernel_rfl) (hM226 _ (Chg.refl [] w213))
  intro w227 hc228
  have hz230 := hc228.size
  have hC229 := hC216.pure hc228
  have hb231 := hb218.pure hc228
  have hb232 := hb219.pure hc228
  have hb233 := hb220.pure hc228
  have hb234 := hb221.pure hc228
  have hb235 := hb214.pure hc228
  refine WR.batch 1 [(0, .int .u8 a0), (1, .bool a1), (6, pt g2 0), (8, pt g24 0), (10, pt g157 0), (11, .bool x145.2), (12, pt g195 0), (13, .bool x182.2), (14, .bool ((((a0 == (1 : Int)) || (a0 == (2 : Int))) && (!a1)) && x182.2)), (103, .bool ((x145.2 && x182.2) && ((a0 == (4 : Int)) || (a0 == (5 : Int)))))] (by kernel_rfl) ?_
  refine WR.mergeW 17 [(0, .int .u8 a0), (1, .bool a1), (6, pt g2 0), (8, pt g24 0), (10, pt g157 0), (11, .bool x145.2), (12, pt g195 0), (13, .bool x182.2), (14, .bool ((((a0 == (1 : Int)) || (a0 == (2 : Int))) && (!a1)) && x182.2)), (107, .bool (((x145.2 && x182.2) && ((a0 == (4 : Int)) || (a0 == (5 : Int)))) && (kind_nought x182.1 a1)))] (fun w' => Chg [] w227 w') (fun Q' => ?_) ?_
  ·
   cases hg236 : ((x145.2 && x182.2) && ((a0 == (4 : Int)) || (a0 == (5 : Int))))
   ·
    replace hg236 : ((x145.2 = false) ∨ (x182.2 = false)) ∨ ((a0 ≠ (4 : Int)) ∧ (a0 ≠ (5 : Int))) := (orMap (bAndF hg236) (fun h => (orMap (bAndF h) (fun h => h) (fun h => h))) (fun h => ⟨(bEqF (bOrF h).1), (bEqF (bOrF h).2)⟩))
    intro hM237
    refine WR.batch 4 [(0, .int .u8 a0), (1, .bool a1), (6, pt g2 0), (8, pt g24 0), (10, pt g157 0), (11, .bool x145.2), (12, pt g195 0), (13, .bool x182.2), (14, .bool ((((a0 == (1 : Int)) || (a0 == (2 : Int))) && (!a1)) && x182.2)), (107, .bool false)] (by kernel_rfl) ?_
    exact WR.keep [0, 1, 6, 8, 10, 11, 12, 13, 14, 107] (by kernel_rfl) (hM237 _ (Chg.refl [] w227))
   ·
    replace hg236 : ((x145.2 = true) ∧ (x182.2 = true)) ∧ ((a0 = (4 : Int)) ∨ (a0 = (5 : Int))) := ⟨⟨(bAndT (bAndT hg236).1).1, (bAndT (bAndT hg236).1).2⟩, (orMap (bOrT (bAndT hg236).2) (fun h => (bEqT h)) (fun h => (bEqT h)))⟩
    intro hM237
    refine WR.load (dst := some 104) (t := 25) (o := 0) hb235 (by kernel_rfl) (.agg #[.int .u64 x182.1.Lo, .int .u64 x182.1.Hi]) (by kernel_rfl) ?_
    refine WR.batch 1 [(0, .int .u8 a0), (1, .bool a1), (6, pt g2 0), (8, pt g24 0), (10, pt g157 0), (11, .bool x145.2), (12, pt g195 0), (13, .bool x182.2), (14, .bool ((((a0 == (1 : Int)) || (a0 == (2 : Int))) && (!a1)) && x182.2)), (103, .bool true), (104, .agg #[.int .u64 x182.1.Lo, .int .u64 x182.1.Hi]), (105, .bool a1)] (by kernel_rfl) ?_
    refine WR.call (dst := some 106) (by kernel_rfl) (kind_nought_any x182.1 a1 w227  ⟨(by omega), (by omega)⟩ ) ?_
    rintro _ w238 hc239 rfl
    have hz241 := hc239.size
    have hC240 := hC229.pure hc239
    have hb242 := hb231.pure hc239
    have hb243 := hb232.pure hc239
    have hb244 := hb233.pure hc239
    have hb245 := hb234.pure hc239
    have hb246 := hb235.pure hc239
    refine WR.batch 1 [(0, .int .u8 a0), (1, .bool a1), (6, pt g2 0), (8, pt g24 0), (10, pt g157 0), (11, .bool x145.2), (12, pt g195 0), (13, .bool x182.2), (14, .bool ((((a0 == (1 : Int)) || (a0 == (2 : Int))) && (!a1)) && x182.2)), (107, .bool (kind_nought x182.1 a1))] (by kernel_rfl) ?_
    exact WR.keep [0, 1, 6, 8, 10, 11, 12, 13, 14, 107] (by kernel_rfl) (hM237 _ ((Chg.refl [] w227).pure hc239))
  intro w247 hc248
  have hz250 := hc248.size
  have hC249 := hC229.pure hc248
  have hb251 := hb231.pure hc248
  have hb252 := hb232.pure hc248
  have hb253 := hb233.pure hc248
  have hb254 := hb234.pure hc248
  have hb255 := hb235.pure hc248
  refine WR.batch 1 [(0, .int .u8 a0), (1, .bool a1), (6, pt g2 0), (8, pt g24 0), (10, pt g157 0), (11, .bool x145.2), (12, pt g195 0), (13, .bool x182.2), (14, .bool ((((a0 == (1 : Int)) || (a0 == (2 : Int))) && (!a1)) && x182.2)), (90, .bool (((x145.2 && x182.2) && ((a0 == (4 : Int)) || (a0 == (5 : Int)))) && (kind_nought x182.1 a1)))] (by kernel_rfl) ?_
  refine WR.fin (by kernel_rfl) ?_
  refine go hK224 ?_
  refine CW.cond ((((x145.2 && x182.2) && ((a0 == (4 : Int)) || (a0 == (5 : Int)))) && (kind_nought x182.1 a1))) (by kernel_rfl) (fun ht256 => ?_) (fun ht256 => ?_)
  ·
   have hs257 := ifT ht256 hs185
   replace ht256 : (((x145.2 = true) ∧ (x182.2 = true)) ∧ ((a0 = (4 : Int)) ∨ (a0 = (5 : Int)))) ∧ ((kind_nought x182.1 a1) = true) := ⟨⟨⟨(bAndT (bAndT (bAndT ht256).1).1).1, (bAndT (bAndT (bAndT ht256).1).1).2⟩, (orMap (bOrT (bAndT (bAndT ht256).1).2) (fun h => (bEqT h)) (fun h => (bEqT h)))⟩, (bAndT ht256).2⟩
   refine CW.seq fun K258 hK258 => ?_
   refine CW.region ?_
   refine WR.batch 1 [(8, pt g24 0), (108, .agg #[.int .u8 0, .int .u64 0, .int .u64 0])] (by kernel_rfl) ?_
   refine WR.store (t := 56) (o := 0) (v := .agg #[.int .u8 0, .int .u64 0, .int .u64 0]) hb253 (by kernel_rfl) #[.int .u8 0, .int .u64 0, .int .u64 0] (by kernel_rfl) ?_
   intro w259 hb260 hc261
   have hz263 := hc261.size
   have hC262 := hC249.step1 hc261 (by omega)
   have hb264 := hb251.chg1 hc261 (by omega)
   have hb265 := hb252.chg1 hc261 (by omega)
   have hb266 := hb254.chg1 hc261 (by omega)
   have hb267 := hb255.chg1 hc261 (by omega)
   refine WR.batch 1 [(8, pt g24 0), (9, .int .i64 113)] (by kernel_rfl) ?_
   refine WR.fin (by kernel_rfl) ?_
   refine go hK258 ?_
   refine CW.ret ?_
   exact retC [.agg #[.int .u8 0, .int .u64 0, .int .u64 0], .int .i64 113] (.tuple #[.agg #[.int .u8 0, .int .u64 0, .int .u64 0], .int .i64 113]) rfl ⟨resCell hb260 rfl (by kernel_rfl), rfl, trivial⟩ (⟨hC262, (congrArg (fun r : (TKnown × Int) => (.tuple #[.agg #[.int .u8 r.1.Kind, .int .u64 r.1.In.Lo, .int .u64 r.1.In.Hi], .int .i64 r.2] : Value)) hs257).symm⟩)
  have hs268 := ifF ht256 hs185
  replace ht256 : (((x145.2 = false) ∨ (x182.2 = false)) ∨ ((a0 ≠ (4 : Int)) ∧ (a0 ≠ (5 : Int)))) ∨ ((kind_nought x182.1 a1) = false) := (orMap (bAndF ht256) (fun h => (orMap (bAndF h) (fun h => (orMap (bAndF h) (fun h => h) (fun h => h))) (fun h => ⟨(bEqF (bOrF h).1), (bEqF (bOrF h).2)⟩))) (fun h => h))
  refine CW.seq fun K269 hK269 => ?_
  refine CW.region ?_
  refine WR.batch 2 [(0, .int .u8 a0), (1, .bool a1), (6, pt g2 0), (8, pt g24 0), (10, pt g157 0), (12, pt g195 0), (13, .bool x182.2), (14, .bool ((((a0 == (1 : Int)) || (a0 == (2 : Int))) && (!a1)) && x182.2)), (111, .bool x145.2)] (by kernel_rfl) ?_
  refine WR.batch 2 [(0, .int .u8 a0), (1, .bool a1), (6, pt g2 0), (8, pt g24 0), (10, pt g157 0), (12, pt g195 0), (14, .bool ((((a0 == (1 : Int)) || (a0 == (2 : Int))) && (!a1)) && x182.2)), (113, .bool (x145.2 && x182.2))] (by generalize x145.2 = b; cases b <;> kernel_rfl) ?_
  refine WR.batch 1 [(0, .int .u8 a0), (1, .bool a1), (6, pt g2 0), (8, pt g24 0), (10, pt g157 0), (12, pt g195 0), (14, .bool ((((a0 == (1 : Int)) || (a0 == (2 : Int))) && (!a1)) && x182.2)), (109, .bool (x145.2 && x182.2))] (by kernel_rfl) ?_
  refine WR.fin (by kernel_rfl) ?_
  refine go hK269 ?_
  refine CW.cond ((x145.2 && x182.2)) (by kernel_rfl) (fun ht270 => ?_) (fun ht270 => ?_)
  ·
   have hs271 := ifT ht270 hs268
   replace ht270 : (x145.2 = true) ∧ (x182.2 = true) := ⟨(bAndT ht270).1, (bAndT ht270).2⟩
   refine CW.seq fun K272 hK272 => ?_
   refine CW.region ?_
   refine WR.batch 2 [(8, pt g24 0), (10, pt g157 0), (12, pt g195 0), (114, .int .u8 a0), (115, .bool a1)] (by kernel_rfl) ?_
   refine WR.load (dst := some 116) (t := 25) (o := 0) hb254 (by kernel_rfl) (.agg #[.int .u64 x145.1.Lo, .int .u64 x145.1.Hi]) (by kernel_rfl) ?_
   refine WR.load (dst := some 117) (t := 25) (o := 0) hb255 (by kernel_rfl) (.agg #[.int .u64 x182.1.Lo, .int .u64 x182.1.Hi]) (by kernel_rfl) ?_
   obtain ⟨x273, hx274⟩ : ∃ x, span_Do a0 a1 x145.1 x182.1 = x := ⟨_, rfl⟩
   have hs276 := letS hx274 hs271
   have hx277 : (0 ≤ x273.Lo ∧ x273.Lo ≤ 18446744073709551615) ∧ (0 ≤ x273.Hi ∧ x273.Hi ≤ 18446744073709551615) := by rw [← hx274]; exact span_Do_ok a0 a1 x145.1 x182.1 (by omega) ⟨(by omega), (by omega)⟩ ⟨(by omega), (by omega)⟩ 
   refine WR.call (dst := some 118) (by kernel_rfl) (retE (g := fun r : TSpan => (.agg #[.int .u64 r.Lo, .int .u64 r.Hi] : Value)) hx274 (span_Do_any a0 a1 x145.1 x182.1 w247  (by omega) ⟨(by omega), (by omega)⟩ ⟨(by omega), (by omega)⟩ )) ?_
   rintro _ w278 hc279 rfl
   have hz281 := hc279.size
   have hC280 := hC249.pure hc279
   have hb282 := hb251.pure hc279
   have hb283 := hb252.pure hc279
   have hb284 := hb253.pure hc279
   have hb285 := hb254.pure hc279
   have hb286 := hb255.pure hc279
   refine WR.batch 1 [(8, pt g24 0), (119, .agg #[.int .u8 1, .int .u64 x273.Lo, .int .u64 x273.Hi])] (by kernel_rfl) ?_
   refine WR.store (t := 56) (o := 0) (v := .agg #[.int .u8 1, .int .u64 x273.Lo, .int .u64 x273.Hi]) hb284 (by kernel_rfl) #[.int .u8 1, .int .u64 x273.Lo, .int .u64 x273.Hi] (by kernel_rfl) ?_
   intro w287 hb288 hc289
   have hz291 := hc289.size
   have hC290 := hC280.step1 hc289 (by omega)
   have hb292 := hb282.chg1 hc289 (by omega)
   have hb293 := hb283.chg1 hc289 (by omega)
   have hb294 := hb285.chg1 hc289 (by omega)
   have hb295 := hb286.chg1 hc289 (by omega)
   refine WR.batch 1 [(8, pt g24 0), (9, .int .i64 0)] (by kernel_rfl) ?_
   refine WR.fin (by kernel_rfl) ?_
   refine go hK272 ?_
   refine CW.ret ?_
   exact retC [.agg #[.int .u8 1, .int .u64 x273.Lo, .int .u64 x273.Hi], .int .i64 0] (.tuple #[.agg #[.int .u8 1, .int .u64 x273.Lo, .int .u64 x273.Hi], .int .i64 0]) rfl ⟨resCell hb288 rfl (by kernel_rfl), rfl, trivial⟩ (⟨hC290, (congrArg (fun r : (TKnown × Int) => (.tuple #[.agg #[.int .u8 r.1.Kind, .int .u64 r.1.In.Lo, .int .u64 r.1.In.Hi], .int .i64 r.2] : Value)) hs276).symm⟩)
  have hs296 := ifF ht270 hs268
  replace ht270 : (x145.2 = false) ∨ (x182.2 = false) := (orMap (bAndF ht270) (fun h => h) (fun h => h))
  refine CW.seq fun K297 hK297 => ?_
  refine CW.seq fun K298 hK298 => ?_
  refine CW.region ?_
  refine WR.batch 2 [(0, .int .u8 a0), (6, pt g2 0), (8, pt g24 0), (12, pt g195 0), (14, .bool ((((a0 == (1 : Int)) || (a0 == (2 : Int))) && (!a1)) && x182.2)), (122, .bool ((((a0 == (1 : Int)) || (a0 == (2 : Int))) && (!a1)) && x182.2))] (by kernel_rfl) ?_
  refine WR.mergeW 6 [(0, .int .u8 a0), (6, pt g2 0), (8, pt g24 0), (12, pt g195 0), (14, .bool ((((a0 == (1 : Int)) || (a0 == (2 : Int))) && (!a1)) && x182.2)), (126, .bool (((((a0 == (1 : Int)) || (a0 == (2 : Int))) && (!a1)) && x182.2) && (a3.Kind == (2 : Int))))] (fun w' => Chg [] w247 w') (fun Q' => ?_) ?_
  ·
   cases hg299 : ((((a0 == (1 : Int)) || (a0 == (2 : Int))) && (!a1)) && x182.2)
   ·
    replace hg299 : (((a0 ≠ (1 : Int)) ∧ (a0 ≠ (2 : Int))) ∨ (a1 = true)) ∨ (x182.2 = false) := (orMap (bAndF hg299) (fun h => (orMap (bAndF h) (fun h => ⟨(bEqF (bOrF h).1), (bEqF (bOrF h).2)⟩) (fun h => (bNotF h)))) (fun h => h))
    intro hM300
    refine WR.batch 4 [(0, .int .u8 a0), (6, pt g2 0), (8, pt g24 0), (12, pt g195 0), (14, .bool false), (126, .bool false)] (by kernel_rfl) ?_
    exact WR.keep [0, 6, 8, 12, 14, 126] (by kernel_rfl) (hM300 _ (Chg.refl [] w247))
   ·
    replace hg299 : (((a0 = (1 : Int)) ∨ (a0 = (2 : Int))) ∧ (a1 = false)) ∧ (x182.2 = true) := ⟨⟨(orMap (bOrT (bAndT (bAndT hg299).1).1) (fun h => (bEqT h)) (fun h => (bEqT h))), (bNotT (bAndT (bAndT hg299).1).2)⟩, (bAndT hg299).2⟩
    intro hM300
    refine WR.batch 1 [(0, .int .u8 a0), (6, pt g2 0), (8, pt g24 0), (12, pt g195 0), (14, .bool true), (122, .bool true), (123, pt g2 0)] (by kernel_rfl) ?_
    refine WR.load (dst := some 124) (t := 54) (o := 0) hb251 (by kernel_rfl) (.int .u8 a3.Kind) (by kernel_rfl) ?_
    refine WR.batch 2 [(0, .int .u8 a0), (6, pt g2 0), (8, pt g24 0), (12, pt g195 0), (14, .bool true), (126, .bool (a3.Kind == (2 : Int)))] (by kernel_rfl) ?_
    exact WR.keep [0, 6, 8, 12, 14, 126] (by kernel_rfl) (hM300 _ (Chg.refl [] w247))
  intro w301 hc302
  have hz304 := hc302.size
  have hC303 := hC249.pure hc302
  have hb305 := hb251.pure hc302
  have hb306 := hb252.pure hc302
  have hb307 := hb253.pure hc302
  have hb308 := hb254.pure hc302
  have hb309 := hb255.pure hc302
  refine WR.batch 1 [(0, .int .u8 a0), (6, pt g2 0), (8, pt g24 0), (12, pt g195 0), (14, .bool ((((a0 == (1 : Int)) || (a0 == (2 : Int))) && (!a1)) && x182.2)), (120, .bool (((((a0 == (1 : Int)) || (a0 == (2 : Int))) && (!a1)) && x182.2) && (a3.Kind == (2 : Int))))] (by kernel_rfl) ?_
  refine WR.fin (by kernel_rfl) ?_
  refine go hK298 ?_
  refine CW.cond ((((((a0 == (1 : Int)) || (a0 == (2 : Int))) && (!a1)) && x182.2) && (a3.Kind == (2 : Int)))) (by kernel_rfl) (fun ht310 => ?_) (fun ht310 => ?_)
  ·
   have hs311 := ifT ht310 hs296
   refine CW.keep [0, 6, 8, 12, 120] (F' := [(0, .int .u8 a0), (6, pt g2 0), (8, pt g24 0), (12, pt g195 0), (120, .bool (((((a0 == (1 : Int)) || (a0 == (2 : Int))) && (!a1)) && x182.2) && (a3.Kind == (2 : Int))))]) (by kernel_rfl) ?_
   refine CW.eqF (F' := [(0, .int .u8 a0), (6, pt g2 0), (8, pt g24 0), (12, pt g195 0), (120, .bool true)]) (by rw [ht310]) ?_
   have hk312 := ht310
   replace ht310 : ((((a0 = (1 : Int)) ∨ (a0 = (2 : Int))) ∧ (a1 = false)) ∧ (x182.2 = true)) ∧ (a3.Kind = (2 : Int)) := ⟨⟨⟨(orMap (bOrT (bAndT (bAndT (bAndT ht310).1).1).1) (fun h => (bEqT h)) (fun h => (bEqT h))), (bNotT (bAndT (bAndT (bAndT ht310).1).1).2)⟩, (bAndT (bAndT ht310).1).2⟩, (bEqT (bAndT ht310).2)⟩
   refine CW.skip ?_
   refine go hK297 ?_
   refine CW.yes (by kernel_rfl) ?_
   refine CW.seq fun K313 hK313 => ?_
   refine CW.keep [0, 6, 8, 12] (F' := [(0, .int .u8 a0), (6, pt g2 0), (8, pt g24 0), (12, pt g195 0)]) (by kernel_rfl) ?_
   refine CW.regionG 7 [some (pt g2 0), some (.int .u8 a3.Kind), some (.int .u8 a0), some (pt g2 1), some (.agg #[.int .u64 a3.In.Lo, .int .u64 a3.In.Hi]), some (.agg #[.int .u64 x182.1.Lo, .int .u64 x182.1.Hi]), some (.agg #[.int .u64 (span_Do a0 false a3.In x182.1).Lo, .int .u64 (span_Do a0 false a3.In x182.1).Hi])] (fun u => [(140, pt g2 0), (141, .int .u8 a3.Kind), (142, .int .u8 a0), (143, pt g2 1), (144, .agg #[.int .u64 a3.In.Lo, .int .u64 a3.In.Hi]), (145, .agg #[.int .u64 x182.1.Lo, .int .u64 x182.1.Hi]), (146, .agg #[.int .u64 (span_Do a0 false a3.In x182.1).Lo, .int .u64 (span_Do a0 false a3.In x182.1).Hi]), (0, .int .u8 a0), (6, pt g2 0), (8, pt g24 0), (12, pt g195 0)]) (fun _ => by kernel_rfl) (by kernel_rfl) [] (fun _ _ => True) (fun _ => trivial) (fun _ _ _ _ _ _ _ => trivial) [] [] (by kernel_rfl) (fun w' => Chg [] w301 w') (fun _ _ _ => True) (fun j x w hj h => absurd hj (by simp)) (by kernel_rfl) (by kernel_rfl) (by kernel_rfl) (by kernel_rfl) (Chg.drew w301) (fun _ _ _ h h' => h.step h' (fun t ht => .inl (cL_sub t ht))) (fun _ _ _ _ _ _ _ _ => trivial) (obsG_batch 1 0 6 (fun _ _ => by kernel_rfl) (by kernel_rfl) ⟨?_, (obsG_batch 2 2 3 (fun _ _ => by kernel_rfl) (by kernel_rfl) ⟨?_, ⟨?_, ⟨?_, trivial⟩⟩⟩)⟩) ?_
   ·
    intro u314 w315 hW316 _ hp317 hal318
    have hz321 := hW316.size
    have hC320 := hC303.pure hW316
    have hb322 := hb305.pure hW316
    have hb323 := hb306.pure hW316
    have hb324 := hb307.pure hW316
    have hb325 := hb308.pure hW316
    have hb326 := hb309.pure hW316
    refine WR.load (dst := some 141) (t := 54) (o := 0) hb322 (by kernel_rfl) (.int .u8 a3.Kind) (by kernel_rfl) ?_
    refine WR.fin (by kernel_rfl) ?_
    exact fun _ ha => ⟨Chg.refl _ _, _, ha, ⟨⟨fun h => absurd h (by decide), alNone (by decide)⟩, rfl⟩⟩
   ·
    intro u327 w328 hW329 _ hp330 hal331
    have hz334 := hW329.size
    have hC333 := hC303.pure hW329
    have hb335 := hb305.pure hW329
    have hb336 := hb306.pure hW329
    have hb337 := hb307.pure hW329
    have hb338 := hb308.pure hW329
    have hb339 := hb309.pure hW329
    refine WR.load (dst := some 144) (t := 25) (o := 1) hb335 (by kernel_rfl) (.agg #[.int .u64 a3.In.Lo, .int .u64 a3.In.Hi]) (by kernel_rfl) ?_
    refine WR.fin (by kernel_rfl) ?_
    exact fun _ ha => ⟨Chg.refl _ _, _, ha, ⟨⟨fun h => absurd h (by decide), alNone (by decide)⟩, rfl⟩⟩
   ·
    intro u340 w341 hW342 _ hp343 hal344
    have hz347 := hW342.size
    have hC346 := hC303.pure hW342
    have hb348 := hb305.pure hW342
    have hb349 := hb306.pure hW342
    have hb350 := hb307.pure hW342
    have hb351 := hb308.pure hW342
    have hb352 := hb309.pure hW342
    refine WR.load (dst := some 145) (t := 25) (o := 0) hb352 (by kernel_rfl) (.agg #[.int .u64 x182.1.Lo, .int .u64 x182.1.Hi]) (by kernel_rfl) ?_
    refine WR.fin (by kernel_rfl) ?_
    exact fun _ ha => ⟨Chg.refl _ _, _, ha, ⟨⟨fun h => absurd h (by decide), alNone (by decide)⟩, rfl⟩⟩
   ·
    intro u353 w354 hW355 _ hp356 hal357
    have hz360 := hW355.size
    have hC359 := hC303.pure hW355
    have hb361 := hb305.pure hW355
    have hb362 := hb306.pure hW355
    have hb363 := hb307.pure hW355
    have hb364 := hb308.pure hW355
    have hb365 := hb309.pure hW355
    have hx366 : (0 ≤ (span_Do a0 false a3.In x182.1).Lo ∧ (span_Do a0 false a3.In x182.1).Lo ≤ 18446744073709551615) ∧ (0 ≤ (span_Do a0 false a3.In x182.1).Hi ∧ (span_Do a0 false a3.In x182.1).Hi ≤ 18446744073709551615) := span_Do_ok a0 false a3.In x182.1 (by omega) ⟨(by omega), (by omega)⟩ ⟨(by omega), (by omega)⟩ 
    have hx367 : (0 ≤ (span_Do a0 false a3.In x182.1).Lo ∧ (span_Do a0 false a3.In x182.1).Lo ≤ 18446744073709551615) ∧ (0 ≤ (span_Do a0 false a3.In x182.1).Hi ∧ (span_Do a0 false a3.In x182.1).Hi ≤ 18446744073709551615) := span_Do_ok a0 false a3.In x182.1 (by omega) ⟨(by omega), (by omega)⟩ ⟨(by omega), (by omega)⟩ 
    refine WR.call (dst := some 146) (by kernel_rfl) (span_Do_any a0 false a3.In x182.1 w354  (by omega) ⟨(by omega), (by omega)⟩ ⟨(by omega), (by omega)⟩ ) ?_
    rintro _ w368 hc369 rfl
    have hz371 := hc369.size
    have hC370 := hC359.pure hc369
    have hb372 := hb361.pure hc369
    have hb373 := hb362.pure hc369
    have hb374 := hb363.pure hc369
    have hb375 := hb364.pure hc369
    have hb376 := hb365.pure hc369
    refine WR.fin (by kernel_rfl) ?_
    exact fun _ ha => ⟨hc369, _, ha, ⟨⟨fun h => absurd h (by decide), alNone (by decide)⟩, rfl⟩⟩
   intro u377 w378 hW379 _ _ _
   have hz384 := hW379.size
   have hC383 := hC303.pure hW379
   have hb385 := hb305.pure hW379
   have hb386 := hb306.pure hW379
   have hb387 := hb307.pure hW379
   have hb388 := hb308.pure hW379
   have hb389 := hb309.pure hW379
   have hx390 : (0 ≤ (span_Do a0 false a3.In x182.1).Lo ∧ (span_Do a0 false a3.In x182.1).Lo ≤ 18446744073709551615) ∧ (0 ≤ (span_Do a0 false a3.In x182.1).Hi ∧ (span_Do a0 false a3.In x182.1).Hi ≤ 18446744073709551615) := span_Do_ok a0 false a3.In x182.1 (by omega) ⟨(by omega), (by omega)⟩ ⟨(by omega), (by omega)⟩ 
   refine WR.keep [8, 141, 146] (F' := [(8, pt g24 0), (141, .int .u8 a3.Kind), (146, .agg #[.int .u64 (span_Do a0 false a3.In x182.1).Lo, .int .u64 (span_Do a0 false a3.In x182.1).Hi])]) (by kernel_rfl) ?_
   refine WR.batch 1 [(8, pt g24 0), (147, .agg #[.int .u8 a3.Kind, .int .u64 (span_Do a0 false a3.In x182.1).Lo, .int .u64 (span_Do a0 false a3.In x182.1).Hi])] (by kernel_rfl) ?_
   refine WR.store (t := 56) (o := 0) (v := .agg #[.int .u8 a3.Kind, .int .u64 (span_Do a0 false a3.In x182.1).Lo, .int .u64 (span_Do a0 false a3.In x182.1).Hi]) hb387 (by kernel_rfl) #[.int .u8 a3.Kind, .int .u64 (span_Do a0 false a3.In x182.1).Lo, .int .u64 (span_Do a0 false a3.In x182.1).Hi] (by kernel_rfl) ?_
   intro w391 hb392 hc393
   have hz395 := hc393.size
   have hC394 := hC383.step1 hc393 (by omega)
   have hb396 := hb385.chg1 hc393 (by omega)
   have hb397 := hb386.chg1 hc393 (by omega)
   have hb398 := hb388.chg1 hc393 (by omega)
   have hb399 := hb389.chg1 hc393 (by omega)
   refine WR.batch 1 [(8, pt g24 0), (9, .int .i64 0)] (by kernel_rfl) ?_
   refine WR.fin (by kernel_rfl) ?_
   refine go hK313 ?_
   refine CW.ret ?_
   exact retC [.agg #[.int .u8 a3.Kind, .int .u64 (span_Do a0 false a3.In x182.1).Lo, .int .u64 (span_Do a0 false a3.In x182.1).Hi], .int .i64 0] (.tuple #[.agg #[.int .u8 a3.Kind, .int .u64 (span_Do a0 false a3.In x182.1).Lo, .int .u64 (span_Do a0 false a3.In x182.1).Hi], .int .i64 0]) rfl ⟨resCell hb392 rfl (by kernel_rfl), rfl, trivial⟩ (⟨hC394, (congrArg (fun r : (TKnown × Int) => (.tuple #[.agg #[.int .u8 r.1.Kind, .int .u64 r.1.In.Lo, .int .u64 r.1.In.Hi], .int .i64 r.2] : Value)) hs311).symm⟩)
  have hs400 := ifF ht310 hs296
  replace ht310 : ((((a0 ≠ (1 : Int)) ∧ (a0 ≠ (2 : Int))) ∨ (a1 = true)) ∨ (x182.2 = false)) ∨ (a3.Kind ≠ (2 : Int)) := (orMap (bAndF ht310) (fun h => (orMap (bAndF h) (fun h => (orMap (bAndF h) (fun h => ⟨(bEqF (bOrF h).1), (bEqF (bOrF h).2)⟩) (fun h => (bNotF h)))) (fun h => h))) (fun h => (bEqF h)))
  refine CW.region ?_
  refine WR.batch 2 [(0, .int .u8 a0), (6, pt g2 0), (8, pt g24 0), (12, pt g195 0), (128, .bool ((((a0 == (1 : Int)) || (a0 == (2 : Int))) && (!a1)) && x182.2))] (by kernel_rfl) ?_
  refine WR.mergeW 6 [(0, .int .u8 a0), (6, pt g2 0), (8, pt g24 0), (12, pt g195 0), (132, .bool (((((a0 == (1 : Int)) || (a0 == (2 : Int))) && (!a1)) && x182.2) && (a3.Kind == (3 : Int))))] (fun w' => Chg [] w301 w') (fun Q' => ?_) ?_
  ·
   cases hg401 : ((((a0 == (1 : Int)) || (a0 == (2 : Int))) && (!a1)) && x182.2)
   ·
    replace hg401 : (((a0 ≠ (1 : Int)) ∧ (a0 ≠ (2 : Int))) ∨ (a1 = true)) ∨ (x182.2 = false) := (orMap (bAndF hg401) (fun h => (orMap (bAndF h) (fun h => ⟨(bEqF (bOrF h).1), (bEqF (bOrF h).2)⟩) (fun h => (bNotF h)))) (fun h => h))
    intro hM402
    refine WR.batch 4 [(0, .int .u8 a0), (6, pt g2 0), (8, pt g24 0), (12, pt g195 0), (132, .bool false)] (by kernel_rfl) ?_
    exact WR.keep [0, 6, 8, 12, 132] (by kernel_rfl) (hM402 _ (Chg.refl [] w301))
   ·
    replace hg401 : (((a0 = (1 : Int)) ∨ (a0 = (2 : Int))) ∧ (a1 = false)) ∧ (x182.2 = true) := ⟨⟨(orMap (bOrT (bAndT (bAndT hg401).1).1) (fun h => (bEqT h)) (fun h => (bEqT h))), (bNotT (bAndT (bAndT hg401).1).2)⟩, (bAndT hg401).2⟩
    intro hM402
    refine WR.batch 1 [(0, .int .u8 a0), (6, pt g2 0), (8, pt g24 0), (12, pt g195 0), (128, .bool true), (129, pt g2 0)] (by kernel_rfl) ?_
    refine WR.load (dst := some 130) (t := 54) (o := 0) hb305 (by kernel_rfl) (.int .u8 a3.Kind) (by kernel_rfl) ?_
    refine WR.batch 2 [(0, .int .u8 a0), (6, pt g2 0), (8, pt g24 0), (12, pt g195 0), (132, .bool (a3.Kind == (3 : Int)))] (by kernel_rfl) ?_
    exact WR.keep [0, 6, 8, 12, 132] (by kernel_rfl) (hM402 _ (Chg.refl [] w301))
  intro w403 hc404
  have hz406 := hc404.size
  have hC405 := hC303.pure hc404
  have hb407 := hb305.pure hc404
  have hb408 := hb306.pure hc404
  have hb409 := hb307.pure hc404
  have hb410 := hb308.pure hc404
  have hb411 := hb309.pure hc404
  have hx412 : (0 ≤ (span_Do a0 false a3.In x182.1).Lo ∧ (span_Do a0 false a3.In x182.1).Lo ≤ 18446744073709551615) ∧ (0 ≤ (span_Do a0 false a3.In x182.1).Hi ∧ (span_Do a0 false a3.In x182.1).Hi ≤ 18446744073709551615) := span_Do_ok a0 false a3.In x182.1 (by omega) ⟨(by omega), (by omega)⟩ ⟨(by omega), (by omega)⟩ 
  refine WR.batch 1 [(0, .int .u8 a0), (6, pt g2 0), (8, pt g24 0), (12, pt g195 0), (133, .bool (((((a0 == (1 : Int)) || (a0 == (2 : Int))) && (!a1)) && x182.2) && (a3.Kind == (3 : Int))))] (by kernel_rfl) ?_
  refine WR.mergeW 13 [(0, .int .u8 a0), (6, pt g2 0), (8, pt g24 0), (12, pt g195 0), (139, .bool ((((((a0 == (1 : Int)) || (a0 == (2 : Int))) && (!a1)) && x182.2) && (a3.Kind == (3 : Int))) && (x182.1.Lo == x182.1.Hi)))] (fun w' => Chg [] w403 w') (fun Q' => ?_) ?_
  ·
   cases hg413 : (((((a0 == (1 : Int)) || (a0 == (2 : Int))) && (!a1)) && x182.2) && (a3.Kind == (3 : Int)))
   ·
    replace hg413 : ((((a0 ≠ (1 : Int)) ∧ (a0 ≠ (2 : Int))) ∨ (a1 = true)) ∨ (x182.2 = false)) ∨ (a3.Kind ≠ (3 : Int)) := (orMap (bAndF hg413) (fun h => (orMap (bAndF h) (fun h => (orMap (bAndF h) (fun h => ⟨(bEqF (bOrF h).1), (bEqF (bOrF h).2)⟩) (fun h => (bNotF h)))) (fun h => h))) (fun h => (bEqF h)))
    intro hM414
    refine WR.batch 6 [(0, .int .u8 a0), (6, pt g2 0), (8, pt g24 0), (12, pt g195 0), (139, .bool false)] (by kernel_rfl) ?_
    exact WR.keep [0, 6, 8, 12, 139] (by kernel_rfl) (hM414 _ (Chg.refl [] w403))
   ·
    replace hg413 : ((((a0 = (1 : Int)) ∨ (a0 = (2 : Int))) ∧ (a1 = false)) ∧ (x182.2 = true)) ∧ (a3.Kind = (3 : Int)) := ⟨⟨⟨(orMap (bOrT (bAndT (bAndT (bAndT hg413).1).1).1) (fun h => (bEqT h)) (fun h => (bEqT h))), (bNotT (bAndT (bAndT (bAndT hg413).1).1).2)⟩, (bAndT (bAndT hg413).1).2⟩, (bEqT (bAndT hg413).2)⟩
    intro hM414
    refine WR.batch 1 [(0, .int .u8 a0), (6, pt g2 0), (8, pt g24 0), (12, pt g195 0), (133, .bool true), (134, pt g195 0)] (by kernel_rfl) ?_
    refine WR.load (dst := some 135) (t := 23) (o := 0) hb411 (by kernel_rfl) (.int .u64 x182.1.Lo) (by kernel_rfl) ?_
    refine WR.batch 1 [(0, .int .u8 a0), (6, pt g2 0), (8, pt g24 0), (12, pt g195 0), (133, .bool true), (135, .int .u64 x182.1.Lo), (136, pt g195 1)] (by kernel_rfl) ?_
    refine WR.load (dst := some 137) (t := 23) (o := 1) hb411 (by kernel_rfl) (.int .u64 x182.1.Hi) (by kernel_rfl) ?_
    refine WR.batch 2 [(0, .int .u8 a0), (6, pt g2 0), (8, pt g24 0), (12, pt g195 0), (139, .bool (x182.1.Lo == x182.1.Hi))] (by kernel_rfl) ?_
    exact WR.keep [0, 6, 8, 12, 139] (by kernel_rfl) (hM414 _ (Chg.refl [] w403))
  intro w415 hc416
  have hz418 := hc416.size
  have hC417 := hC405.pure hc416
  have hb419 := hb407.pure hc416
  have hb420 := hb408.pure hc416
  have hb421 := hb409.pure hc416
  have hb422 := hb410.pure hc416
  have hb423 := hb411.pure hc416
  have hx424 : (0 ≤ (span_Do a0 false a3.In x182.1).Lo ∧ (span_Do a0 false a3.In x182.1).Lo ≤ 18446744073709551615) ∧ (0 ≤ (span_Do a0 false a3.In x182.1).Hi ∧ (span_Do a0 false a3.In x182.1).Hi ≤ 18446744073709551615) := span_Do_ok a0 false a3.In x182.1 (by omega) ⟨(by omega), (by omega)⟩ ⟨(by omega), (by omega)⟩ 
  refine WR.batch 1 [(0, .int .u8 a0), (6, pt g2 0), (8, pt g24 0), (12, pt g195 0), (120, .bool ((((((a0 == (1 : Int)) || (a0 == (2 : Int))) && (!a1)) && x182.2) && (a3.Kind == (3 : Int))) && (x182.1.Lo == x182.1.Hi)))] (by kernel_rfl) ?_
  refine WR.fin (by kernel_rfl) ?_
  refine go hK297 ?_
  refine CW.cond (((((((a0 == (1 : Int)) || (a0 == (2 : Int))) && (!a1)) && x182.2) && (a3.Kind == (3 : Int))) && (x182.1.Lo == x182.1.Hi))) (by kernel_rfl) (fun ht425 => ?_) (fun ht425 => ?_)
  ·
   have hs426 := ifT ht425 hs400
   replace ht425 : (((((a0 = (1 : Int)) ∨ (a0 = (2 : Int))) ∧ (a1 = false)) ∧ (x182.2 = true)) ∧ (a3.Kind = (3 : Int))) ∧ (x182.1.Lo = x182.1.Hi) := ⟨⟨⟨⟨(orMap (bOrT (bAndT (bAndT (bAndT (bAndT ht425).1).1).1).1) (fun h => (bEqT h)) (fun h => (bEqT h))), (bNotT (bAndT (bAndT (bAndT (bAndT ht425).1).1).1).2)⟩, (bAndT (bAndT (bAndT ht425).1).1).2⟩, (bEqT (bAndT (bAndT ht425).1).2)⟩, (bEqT (bAndT ht425).2)⟩
   refine CW.seq fun K427 hK427 => ?_
   refine CW.keep [0, 6, 8, 12] (F' := [(0, .int .u8 a0), (6, pt g2 0), (8, pt g24 0), (12, pt g195 0)]) (by kernel_rfl) ?_
   refine CW.regionG 7 [some (pt g2 0), some (.int .u8 a3.Kind), some (.int .u8 a0), some (pt g2 1), some (.agg #[.int .u64 a3.In.Lo, .int .u64 a3.In.Hi]), some (.agg #[.int .u64 x182.1.Lo, .int .u64 x182.1.Hi]), some (.agg #[.int .u64 (span_Do a0 false a3.In x182.1).Lo, .int .u64 (span_Do a0 false a3.In x182.1).Hi])] (fun u => [(140, pt g2 0), (141, .int .u8 a3.Kind), (142, .int .u8 a0), (143, pt g2 1), (144, .agg #[.int .u64 a3.In.Lo, .int .u64 a3.In.Hi]), (145, .agg #[.int .u64 x182.1.Lo, .int .u64 x182.1.Hi]), (146, .agg #[.int .u64 (span_Do a0 false a3.In x182.1).Lo, .int .u64 (span_Do a0 false a3.In x182.1).Hi]), (0, .int .u8 a0), (6, pt g2 0), (8, pt g24 0), (12, pt g195 0)]) (fun _ => by kernel_rfl) (by kernel_rfl) [] (fun _ _ => True) (fun _ => trivial) (fun _ _ _ _ _ _ _ => trivial) [] [] (by kernel_rfl) (fun w' => Chg [] w415 w') (fun _ _ _ => True) (fun j x w hj h => absurd hj (by simp)) (by kernel_rfl) (by kernel_rfl) (by kernel_rfl) (by kernel_rfl) (Chg.drew w415) (fun _ _ _ h h' => h.step h' (fun t ht => .inl (cL_sub t ht))) (fun _ _ _ _ _ _ _ _ => trivial) (obsG_batch 1 0 6 (fun _ _ => by kernel_rfl) (by kernel_rfl) ⟨?_, (obsG_batch 2 2 3 (fun _ _ => by kernel_rfl) (by kernel_rfl) ⟨?_, ⟨?_, ⟨?_, trivial⟩⟩⟩)⟩) ?_
   ·
    intro u428 w429 hW430 _ hp431 hal432
    have hz435 := hW430.size
    have hC434 := hC417.pure hW430
    have hb436 := hb419.pure hW430
    have hb437 := hb420.pure hW430
    have hb438 := hb421.pure hW430
    have hb439 := hb422.pure hW430
    have hb440 := hb423.pure hW430
    refine WR.load (dst := some 141) (t := 54) (o := 0) hb436 (by kernel_rfl) (.int .u8 a3.Kind) (by kernel_rfl) ?_
    refine WR.fin (by kernel_rfl) ?_
    exact fun _ ha => ⟨Chg.refl _ _, _, ha, ⟨⟨fun h => absurd h (by decide), alNone (by decide)⟩, rfl⟩⟩
   ·
    intro u441 w442 hW443 _ hp444 hal445
    have hz448 := hW443.size
    have hC447 := hC417.pure hW443
    have hb449 := hb419.pure hW443
    have hb450 := hb420.pure hW443
    have hb451 := hb421.pure hW443
    have hb452 := hb422.pure hW443
    have hb453 := hb423.pure hW443
    refine WR.load (dst := some 144) (t := 25) (o := 1) hb449 (by kernel_rfl) (.agg #[.int .u64 a3.In.Lo, .int .u64 a3.In.Hi]) (by kernel_rfl) ?_
    refine WR.fin (by kernel_rfl) ?_
    exact fun _ ha => ⟨Chg.refl _ _, _, ha, ⟨⟨fun h => absurd h (by decide), alNone (by decide)⟩, rfl⟩⟩
   ·
    intro u454 w455 hW456 _ hp457 hal458
    have hz461 := hW456.size
    have hC460 := hC417.pure hW456
    have hb462 := hb419.pure hW456
    have hb463 := hb420.pure hW456
    have hb464 := hb421.pure hW456
    have hb465 := hb422.pure hW456
    have hb466 := hb423.pure hW456
    refine WR.load (dst := some 145) (t := 25) (o := 0) hb466 (by kernel_rfl) (.agg #[.int .u64 x182.1.Lo, .int .u64 x182.1.Hi]) (by kernel_rfl) ?_
    refine WR.fin (by kernel_rfl) ?_
    exact fun _ ha => ⟨Chg.refl _ _, _, ha, ⟨⟨fun h => absurd h (by decide), alNone (by decide)⟩, rfl⟩⟩
   ·
    intro u467 w468 hW469 _ hp470 hal471
    have hz474 := hW469.size
    have hC473 := hC417.pure hW469
    have hb475 := hb419.pure hW469
    have hb476 := hb420.pure hW469
    have hb477 := hb421.pure hW469
    have hb478 := hb422.pure hW469
    have hb479 := hb423.pure hW469
    have hx480 : (0 ≤ (span_Do a0 false a3.In x182.1).Lo ∧ (span_Do a0 false a3.In x182.1).Lo ≤ 18446744073709551615) ∧ (0 ≤ (span_Do a0 false a3.In x182.1).Hi ∧ (span_Do a0 false a3.In x182.1).Hi ≤ 18446744073709551615) := span_Do_ok a0 false a3.In x182.1 (by omega) ⟨(by omega), (by omega)⟩ ⟨(by omega), (by omega)⟩ 
    have hx481 : (0 ≤ (span_Do a0 false a3.In x182.1).Lo ∧ (span_Do a0 false a3.In x182.1).Lo ≤ 18446744073709551615) ∧ (0 ≤ (span_Do a0 false a3.In x182.1).Hi ∧ (span_Do a0 false a3.In x182.1).Hi ≤ 18446744073709551615) := span_Do_ok a0 false a3.In x182.1 (by omega) ⟨(by omega), (by omega)⟩ ⟨(by omega), (by omega)⟩ 
    refine WR.call (dst := some 146) (by kernel_rfl) (span_Do_any a0 false a3.In x182.1 w468  (by omega) ⟨(by omega), (by omega)⟩ ⟨(by omega), (by omega)⟩ ) ?_
    rintro _ w482 hc483 rfl
    have hz485 := hc483.size
    have hC484 := hC473.pure hc483
    have hb486 := hb475.pure hc483
    have hb487 := hb476.pure hc483
    have hb488 := hb477.pure hc483
    have hb489 := hb478.pure hc483
    have hb490 := hb479.pure hc483
    refine WR.fin (by kernel_rfl) ?_
    exact fun _ ha => ⟨hc483, _, ha, ⟨⟨fun h => absurd h (by decide), alNone (by decide)⟩, rfl⟩⟩
   intro u491 w492 hW493 _ _ _
   have hz498 := hW493.size
   have hC497 := hC417.pure hW493
   have hb499 := hb419.pure hW493
   have hb500 := hb420.pure hW493
   have hb501 := hb421.pure hW493
   have hb502 := hb422.pure hW493
   have hb503 := hb423.pure hW493
   have hx504 : (0 ≤ (span_Do a0 false a3.In x182.1).Lo ∧ (span_Do a0 false a3.In x182.1).Lo ≤ 18446744073709551615) ∧ (0 ≤ (span_Do a0 false a3.In x182.1).Hi ∧ (span_Do a0 false a3.In x182.1).Hi ≤ 18446744073709551615) := span_Do_ok a0 false a3.In x182.1 (by omega) ⟨(by omega), (by omega)⟩ ⟨(by omega), (by omega)⟩ 
   refine WR.keep [8, 141, 146] (F' := [(8, pt g24 0), (141, .int .u8 a3.Kind), (146, .agg #[.int .u64 (span_Do a0 false a3.In x182.1).Lo, .int .u64 (span_Do a0 false a3.In x182.1).Hi])]) (by kernel_rfl) ?_
   refine WR.batch 1 [(8, pt g24 0), (147, .agg #[.int .u8 a3.Kind, .int .u64 (span_Do a0 false a3.In x182.1).Lo, .int .u64 (span_Do a0 false a3.In x182.1).Hi])] (by kernel_rfl) ?_
   refine WR.store (t := 56) (o := 0) (v := .agg #[.int .u8 a3.Kind, .int .u64 (span_Do a0 false a3.In x182.1).Lo, .int .u64 (span_Do a0 false a3.In x182.1).Hi]) hb501 (by kernel_rfl) #[.int .u8 a3.Kind, .int .u64 (span_Do a0 false a3.In x182.1).Lo, .int .u64 (span_Do a0 false a3.In x182.1).Hi] (by kernel_rfl) ?_
   intro w505 hb506 hc507
   have hz509 := hc507.size
   have hC508 := hC497.step1 hc507 (by omega)
   have hb510 := hb499.chg1 hc507 (by omega)
   have hb511 := hb500.chg1 hc507 (by omega)
   have hb512 := hb502.chg1 hc507 (by omega)
   have hb513 := hb503.chg1 hc507 (by omega)
   refine WR.batch 1 [(8, pt g24 0), (9, .int .i64 0)] (by kernel_rfl) ?_
   refine WR.fin (by kernel_rfl) ?_
   refine go hK427 ?_
   refine CW.ret ?_
   exact retC [.agg #[.int .u8 a3.Kind, .int .u64 (span_Do a0 false a3.In x182.1).Lo, .int .u64 (span_Do a0 false a3.In x182.1).Hi], .int .i64 0] (.tuple #[.agg #[.int .u8 a3.Kind, .int .u64 (span_Do a0 false a3.In x182.1).Lo, .int .u64 (span_Do a0 false a3.In x182.1).Hi], .int .i64 0]) rfl ⟨resCell hb506 rfl (by kernel_rfl), rfl, trivial⟩ (⟨hC508, (congrArg (fun r : (TKnown × Int) => (.tuple #[.agg #[.int .u8 r.1.Kind, .int .u64 r.1.In.Lo, .int .u64 r.1.In.Hi], .int .i64 r.2] : Value)) hs426).symm⟩)
  have hs514 := ifF ht425 hs400
  replace ht425 : (((((a0 ≠ (1 : Int)) ∧ (a0 ≠ (2 : Int))) ∨ (a1 = true)) ∨ (x182.2 = false)) ∨ (a3.Kind ≠ (3 : Int))) ∨ (x182.1.Lo ≠ x182.1.Hi) := (orMap (bAndF ht425) (fun h => (orMap (bAndF h) (fun h => (orMap (bAndF h) (fun h => (orMap (bAndF h) (fun h => ⟨(bEqF (bOrF h).1), (bEqF (bOrF h).2)⟩) (fun h => (bNotF h)))) (fun h => h))) (fun h => (bEqF h)))) (fun h => (bEqF h)))
  refine CW.skip ?_
  refine go hK223 ?_
  refine CW.seq fun K515 hK515 => ?_
  refine CW.region ?_
  refine WR.batch 1 [(8, pt g24 0), (148, .agg #[.int .u8 0, .int .u64 0, .int .u64 0])] (by kernel_rfl) ?_
  refine WR.store (t := 56) (o := 0) (v := .agg #[.int .u8 0, .int .u64 0, .int .u64 0]) hb421 (by kernel_rfl) #[.int .u8 0, .int .u64 0, .int .u64 0] (by kernel_rfl) ?_
  intro w516 hb517 hc518
  have hz520 := hc518.size
  have hC519 := hC417.step1 hc518 (by omega)
  have hb521 := hb419.chg1 hc518 (by omega)
  have hb522 := hb420.chg1 hc518 (by omega)
  have hb523 := hb422.chg1 hc518 (by omega)
  have hb524 := hb423.chg1 hc518 (by omega)
  refine WR.batch 1 [(8, pt g24 0), (9, .int .i64 114)] (by kernel_rfl) ?_
  refine WR.fin (by kernel_rfl) ?_
  refine go hK515 ?_
  refine CW.ret ?_
  exact retC [.agg #[.int .u8 0, .int .u64 0, .int .u64 0], .int .i64 114] (.tuple #[.agg #[.int .u8 0, .int .u64 0, .int .u64 0], .int .i64 114]) rfl ⟨resCell hb517 rfl (by kernel_rfl), rfl, trivial⟩ (⟨hC519, (congrArg (fun r : (TKnown × Int) => (.tuple #[.agg #[.int .u8 r.1.Kind, .int .u64 r.1.In.Lo, .int .u64 r.1.In.Hi], .int .i64 r.2] : Value)) hs514).symm⟩)
 have hs525 := ifF ht135 hs133
 replace ht135 : a0 ≠ (12 : Int) := (bEqF ht135)
 refine CW.seq fun K526 hK526 => ?_
 refine CW.region ?_
 refine WR.batch 3 [(0, .int .u8 a0), (1, .bool a1), (6, pt g2 0), (7, pt g12 0), (8, pt g24 0), (63, .bool (a0 == (13 : Int)))] (by kernel_rfl) ?_
 refine WR.fin (by kernel_rfl) ?_
 refine go hK526 ?_
 refine CW.cond ((a0 == (13 : Int))) (by kernel_rfl) (fun ht527 => ?_) (fun ht527 => ?_)
 ·
  have hs528 := ifT ht527 hs525
  replace ht527 : a0 = (13 : Int) := (bEqT ht527)
  refine CW.region ?_
  refine WR.load (dst := some 66) (t := 56) (o := 0) hb108 (by kernel_rfl) (.agg #[.int .u8 a2.Kind, .int .u64 a2.In.Lo, .int .u64 a2.In.Hi]) (by kernel_rfl) ?_
  refine WR.store (t := 56) (o := 0) (v := .agg #[.int .u8 a2.Kind, .int .u64 a2.In.Lo, .int .u64 a2.In.Hi]) hb109 (by kernel_rfl) #[.int .u8 a2.Kind, .int .u64 a2.In.Lo, .int .u64 a2.In.Hi] (by kernel_rfl) ?_
  intro w529 hb530 hc531
  have hz533 := hc531.size
  have hC532 := hC106.step1 hc531 (by omega)
  have hb534 := hb108.chg1 hc531 (by omega)
  have hb535 := hb110.chg1 hc531 (by omega)
  refine WR.fin (by kernel_rfl) ?_
  refine go hK38 ?_
  refine CW.seq fun K536 hK536 => ?_
  refine CW.region ?_
  refine WR.load (dst := some 68) (t := 56) (o := 0) hb534 (by kernel_rfl) (.agg #[.int .u8 a2.Kind, .int .u64 a2.In.Lo, .int .u64 a2.In.Hi]) (by kernel_rfl) ?_
  obtain ⟨x537, hx538⟩ : ∃ x, kind_number a2 = x := ⟨_, rfl⟩
  have hs540 := letS hx538 hs528
  have hx541 : (0 ≤ x537.1.Lo ∧ x537.1.Lo ≤ 18446744073709551615) ∧ (0 ≤ x537.1.Hi ∧ x537.1.Hi ≤ 18446744073709551615) := by rw [← hx538]; exact kind_number_ok a2 ⟨(by omega), (by omega), (by omega)⟩ 
  refine WR.call (dst := some 69) (by kernel_rfl) (retE (g := fun r : (TSpan × Bool) => (.tuple #[.agg #[.int .u64 r.1.Lo, .int .u64 r.1.Hi], .bool r.2] : Value)) hx538 (kind_number_any a2 w529  ⟨(by omega), (by omega), (by omega)⟩ )) ?_
  rintro _ w542 hc543 rfl
  have hz545 := hc543.size
  have hC544 := hC532.pure hc543
  have hb546 := hb534.pure hc543
  have hb547 := hb530.pure hc543
  have hb548 := hb535.pure hc543
  refine WR.batch 3 [(0, .int .u8 a0), (1, .bool a1), (6, pt g2 0), (7, pt g12 0), (8, pt g24 0), (70, .agg #[.int .u64 x537.1.Lo, .int .u64 x537.1.Hi]), (71, .bool x537.2)] (by kernel_rfl) ?_
  refine WR.alloc (dst := some 10) (e := 25) (by kernel_rfl) #[.int .u64 0, .int .u64 0] (by kernel_rfl) ?_
  intro g549 w550 hN551
  have hl554 : g2 < g549 := Nat.lt_of_lt_of_le hb546.lt hN551.fresh
  have hl555 : g12 < g549 := Nat.lt_of_lt_of_le hb547.lt hN551.fresh
  have hl556 : g24 < g549 := Nat.lt_of_lt_of_le hb548.lt hN551.fresh
  have hf553 : w.heap.size ≤ g549 := Nat.le_trans hC544.size hN551.fresh
  have hfr558 := hN551.fresh
  have hc557 := hN551.chg
  have hz560 := hc557.size
  have hC559 := hC544.pure hc557
  have hb561 := hb546.pure hc557
  have hb562 := hb547.pure hc557
  have hb563 := hb548.pure hc557
  have hb552 := hN551.blk
  have hg564 := hb552.lt
  refine WR.store (t := 25) (o := 0) (v := .agg #[.int .u64 x537.1.Lo, .int .u64 x537.1.Hi]) hb552 (by kernel_rfl) #[.int .u64 x537.1.Lo, .int .u64 x537.1.Hi] (by kernel_rfl) ?_
  intro w565 hb566 hc567
  have hz569 := hc567.size
  have hC568 := hC559.step1 hc567 (by omega)
  have hb570 := hb561.chg1 hc567 (by omega)
  have hb571 := hb562.chg1 hc567 (by omega)
  have hb572 := hb563.chg1 hc567 (by omega)
  refine WR.batch 1 [(0, .int .u8 a0), (1, .bool a1), (6, pt g2 0), (7, pt g12 0), (8, pt g24 0), (10, pt g549 0), (11, .bool x537.2)] (by kernel_rfl) ?_
  refine WR.fin (by kernel_rfl) ?_
  refine go hK536 ?_
  refine CW.seq fun K573 hK573 => ?_
  refine CW.region ?_
  refine WR.load (dst := some 73) (t := 56) (o := 0) hb571 (by kernel_rfl) (.agg #[.int .u8 a2.Kind, .int .u64 a2.In.Lo, .int .u64 a2.In.Hi]) (by kernel_rfl) ?_
  obtain ⟨x574, hx575⟩ : ∃ x, kind_number a2 = x := ⟨_, rfl⟩
  have hs577 := letS hx575 hs540
  have hx578 : (0 ≤ x574.1.Lo ∧ x574.1.Lo ≤ 18446744073709551615) ∧ (0 ≤ x574.1.Hi ∧ x574.1.Hi ≤ 18446744073709551615) := by rw [← hx575]; exact kind_number_ok a2 ⟨(by omega), (by omega), (by omega)⟩ 
  refine WR.call (dst := some 74) (by kernel_rfl) (retE (g := fun r : (TSpan × Bool) => (.tuple #[.agg #[.int .u64 r.1.Lo, .int .u64 r.1.Hi], .bool r.2] : Value)) hx575 (kind_number_any a2 w565  ⟨(by omega), (by omega), (by omega)⟩ )) ?_
  rintro _ w579 hc580 rfl
  have hz582 := hc580.size
  have hC581 := hC568.pure hc580
  have hb583 := hb570.pure hc580
  have hb584 := hb571.pure hc580
  have hb585 := hb572.pure hc580
  have hb586 := hb566.pure hc580
  refine WR.batch 3 [(0, .int .u8 a0), (1, .bool a1), (6, pt g2 0), (8, pt g24 0), (10, pt g549 0), (11, .bool x537.2), (75, .agg #[.int .u64 x574.1.Lo, .int .u64 x574.1.Hi]), (76, .bool x574.2)] (by kernel_rfl) ?_
  refine WR.alloc (dst := some 12) (e := 25) (by kernel_rfl) #[.int .u64 0, .int .u64 0] (by kernel_rfl) ?_
  intro g587 w588 hN589
  have hl592 : g2 < g587 := Nat.lt_of_lt_of_le hb583.lt hN589.fresh
  have hl593 : g12 < g587 := Nat.lt_of_lt_of_le hb584.lt hN589.fresh
  have hl594 : g24 < g587 := Nat.lt_of_lt_of_le hb585.lt hN589.fresh
  have hl595 : g549 < g587 := Nat.lt_of_lt_of_le hb586.lt hN589.fresh
  have hf591 : w.heap.size ≤ g587 := Nat.le_trans hC581.size hN589.fresh
  have hfr597 := hN589.fresh
  have hc596 := hN589.chg
  have hz599 := hc596.size
  have hC598 := hC581.pure hc596
  have hb600 := hb583.pure hc596
  have hb601 := hb584.pure hc596
  have hb602 := hb585.pure hc596
  have hb603 := hb586.pure hc596
  have hb590 := hN589.blk
  have hg604 := hb590.lt
  refine WR.store (t := 25) (o := 0) (v := .agg #[.int .u64 x574.1.Lo, .int .u64 x574.1.Hi]) hb590 (by kernel_rfl) #[.int .u64 x574.1.Lo, .int .u64 x574.1.Hi] (by kernel_rfl) ?_
  intro w605 hb606 hc607
  have hz609 := hc607.size
  have hC608 := hC598.step1 hc607 (by omega)
  have hb610 := hb600.chg1 hc607 (by omega)
  have hb611 := hb601.chg1 hc607 (by omega)
  have hb612 := hb602.chg1 hc607 (by omega)
  have hb613 := hb603.chg1 hc607 (by omega)
  refine WR.batch 1 [(0, .int .u8 a0), (1, .bool a1), (6, pt g2 0), (8, pt g24 0), (10, pt g549 0), (11, .bool x537.2), (12, pt g587 0), (13, .bool x574.2)] (by kernel_rfl) ?_
  refine WR.fin (by kernel_rfl) ?_
  refine go hK573 ?_
  refine CW.seq fun K614 hK614 => ?_
  refine CW.region ?_
  refine WR.batch 3 [(0, .int .u8 a0), (1, .bool a1), (6, pt g2 0), (8, pt g24 0), (10, pt g549 0), (11, .bool x537.2), (12, pt g587 0), (13, .bool x574.2), (79, .bool (a0 == (1 : Int)))] (by kernel_rfl) ?_
  refine WR.batch 3 [(0, .int .u8 a0), (1, .bool a1), (6, pt g2 0), (8, pt g24 0), (10, pt g549 0), (11, .bool x537.2), (12, pt g587 0), (13, .bool x574.2), (82, .bool ((a0 == (1 : Int)) || (a0 == (2 : Int))))] (by generalize (a0 == (1 : Int)) = b; cases b <;> kernel_rfl) ?_
  refine WR.batch 1 [(0, .int .u8 a0), (1, .bool a1), (6, pt g2 0), (8, pt g24 0), (10, pt g549 0), (11, .bool x537.2), (12, pt g587 0), (13, .bool x574.2), (83, .bool ((a0 == (1 : Int)) || (a0 == (2 : Int))))] (by kernel_rfl) ?_
  refine WR.batch 3 [(0, .int .u8 a0), (1, .bool a1), (6, pt g2 0), (8, pt g24 0), (10, pt g549 0), (11, .bool x537.2), (12, pt g587 0), (13, .bool x574.2), (86, .bool (((a0 == (1 : Int)) || (a0 == (2 : Int))) && (!a1)))] (by generalize ((a0 == (1 : Int)) || (a0 == (2 : Int))) = b; cases b <;> kernel_rfl) ?_
  refine WR.batch 1 [(0, .int .u8 a0), (1, .bool a1), (6, pt g2 0), (8, pt g24 0), (10, pt g549 0), (11, .bool x537.2), (12, pt g587 0), (13, .bool x574.2), (87, .bool (((a0 == (1 : Int)) || (a0 == (2 : Int))) && (!a1)))] (by kernel_rfl) ?_
  refine WR.batch 2 [(0, .int .u8 a0), (1, .bool a1), (6, pt g2 0), (8, pt g24 0), (10, pt g549 0), (11, .bool x537.2), (12, pt g587 0), (13, .bool x574.2), (89, .bool ((((a0 == (1 : Int)) || (a0 == (2 : Int))) && (!a1)) && x574.2))] (by generalize (((a0 == (1 : Int)) || (a0 == (2 : Int))) && (!a1)) = b; cases b <;> kernel_rfl) ?_
  refine WR.batch 1 [(0, .int .u8 a0), (1, .bool a1), (6, pt g2 0), (8, pt g24 0), (10, pt g549 0), (11, .bool x537.2), (12, pt g587 0), (13, .bool x574.2), (14, .bool ((((a0 == (1 : Int)) || (a0 == (2 : Int))) && (!a1)) && x574.2))] (by kernel_rfl) ?_
  refine WR.fin (by kernel_rfl) ?_
  refine go hK614 ?_
  refine CW.seq fun K615 hK615 => ?_
  refine CW.block ?_
  refine CW.seq fun K616 hK616 => ?_
  refine CW.region ?_
  refine WR.batch 2 [(0, .int .u8 a0), (1, .bool a1), (6, pt g2 0), (8, pt g24 0), (10, pt g549 0), (11, .bool x537.2), (12, pt g587 0), (13, .bool x574.2), (14, .bool ((((a0 == (1 : Int)) || (a0 == (2 : Int))) && (!a1)) && x574.2)), (92, .bool x537.2)] (by kernel_rfl) ?_
  refine WR.batch 2 [(0, .int .u8 a0), (1, .bool a1), (6, pt g2 0), (8, pt g24 0), (10, pt g549 0), (11, .bool x537.2), (12, pt g587 0), (13, .bool x574.2), (14, .bool ((((a0 == (1 : Int)) || (a0 == (2 : Int))) && (!a1)) && x574.2)), (94, .bool (x537.2 && x574.2))] (by generalize x537.2 = b; cases b <;> kernel_rfl) ?_
  refine WR.batch 1 [(0, .int .u8 a0), (1, .bool a1), (6, pt g2 0), (8, pt g24 0), (10, pt g549 0), (11, .bool x537.2), (12, pt g587 0), (13, .bool x574.2), (14, .bool ((((a0 == (1 : Int)) || (a0 == (2 : Int))) && (!a1)) && x574.2)), (95, .bool (x537.2 && x574.2))] (by kernel_rfl) ?_
  refine WR.mergeW 12 [(0, .int .u8 a0), (1, .bool a1), (6, pt g2 0), (8, pt g24 0), (10, pt g549 0), (11, .bool x537.2), (12, pt g587 0), (13, .bool x574.2), (14, .bool ((((a0 == (1 : Int)) || (a0 == (2 : Int))) && (!a1)) && x574.2)), (102, .bool ((x537.2 && x574.2) && ((a0 == (4 : Int)) || (a0 == (5 : Int)))))] (fun w' => Chg [] w605 w') (fun Q' => ?_) ?_
  ·
   cases hg617 : (x537.2 && x574.2)
   ·
    replace hg617 : (x537.2 = false) ∨ (x574.2 = false) := (orMap (bAndF hg617) (fun h => h) (fun h => h))
    intro hM618
    refine WR.batch 7 [(0, .int .u8 a0), (1, .bool a1), (6, pt g2 0), (8, pt g24 0), (10, pt g549 0), (11, .bool x537.2), (12, pt g587 0), (13, .bool x574.2), (14, .bool ((((a0 == (1 : Int)) || (a0 == (2 : Int))) && (!a1)) && x574.2)), (102, .bool false)] (by kernel_rfl) ?_
    exact WR.keep [0, 1, 6, 8, 10, 11, 12, 13, 14, 102] (by kernel_rfl) (hM618 _ (Chg.refl [] w605))
   ·
    replace hg617 : (x537.2 = true) ∧ (x574.2 = true) := ⟨(bAndT hg617).1, (bAndT hg617).2⟩
    intro hM618
    refine WR.batch 3 [(0, .int .u8 a0), (1, .bool a1), (6, pt g2 0), (8, pt g24 0), (10, pt g549 0), (11, .bool x537.2), (12, pt g587 0), (13, .bool x574.2), (14, .bool ((((a0 == (1 : Int)) || (a0 == (2 : Int))) && (!a1)) && x574.2)), (95, .bool true), (98, .bool (a0 == (4 : Int)))] (by kernel_rfl) ?_
    refine WR.batch 3 [(0, .int .u8 a0), (1, .bool a1), (6, pt g2 0), (8, pt g24 0), (10, pt g549 0), (11, .bool x537.2), (12, pt g587 0), (13, .bool x574.2), (14, .bool ((((a0 == (1 : Int)) || (a0 == (2 : Int))) && (!a1)) && x574.2)), (95, .bool true), (101, .bool ((a0 == (4 : Int)) || (a0 == (5 : Int))))] (by generalize (a0 == (4 : Int)) = b; cases b <;> kernel_rfl) ?_
    refine WR.batch 1 [(0, .int .u8 a0), (1, .bool a1), (6, pt g2 0), (8, pt g24 0), (10, pt g549 0), (11, .bool x537.2), (12, pt g587 0), (13, .bool x574.2), (14, .bool ((((a0 == (1 : Int)) || (a0 == (2 : Int))) && (!a1)) && x574.2)), (102, .bool ((a0 == (4 : Int)) || (a0 == (5 : Int))))] (by kernel_rfl) ?_
    exact WR.keep [0, 1, 6, 8, 10, 11, 12, 13, 14, 102] (by kernel_rfl) (hM618 _ (Chg.refl [] w605))
  intro w619 hc620
  have hz622 := hc620.size
  have hC621 := hC608.pure hc620
  have hb623 := hb610.pure hc620
  have hb624 := hb611.pure hc620
  have hb625 := hb612.pure hc620
  have hb626 := hb613.pure hc620
  have hb627 := hb606.pure hc620
  refine WR.batch 1 [(0, .int .u8 a0), (1, .bool a1), (6, pt g2 0), (8, pt g24 0), (10, pt g549 0), (11, .bool x537.2), (12, pt g587 0), (13, .bool x574.2), (14, .bool ((((a0 == (1 : Int)) || (a0 == (2 : Int))) && (!a1)) && x574.2)), (103, .bool ((x537.2 && x574.2) && ((a0 == (4 : Int)) || (a0 == (5 : Int)))))] (by kernel_rfl) ?_
  refine WR.mergeW 17 [(0, .int .u8 a0), (1, .bool a1), (6, pt g2 0), (8, pt g24 0), (10, pt g549 0), (11, .bool x537.2), (12, pt g587 0), (13, .bool x574.2), (14, .bool ((((a0 == (1 : Int)) || (a0 == (2 : Int))) && (!a1)) && x574.2)), (107, .bool (((x537.2 && x574.2) && ((a0 == (4 : Int)) || (a0 == (5 : Int)))) && (kind_nought x574.1 a1)))] (fun w' => Chg [] w619 w') (fun Q' => ?_) ?_
  ·
   cases hg628 : ((x537.2 && x574.2) && ((a0 == (4 : Int)) || (a0 == (5 : Int))))
   ·
    replace hg628 : ((x537.2 = false) ∨ (x574.2 = false)) ∨ ((a0 ≠ (4 : Int)) ∧ (a0 ≠ (5 : Int))) := (orMap (bAndF hg628) (fun h => (orMap (bAndF h) (fun h => h) (fun h => h))) (fun h => ⟨(bEqF (bOrF h).1), (bEqF (bOrF h).2)⟩))
    intro hM629
    refine WR.batch 4 [(0, .int .u8 a0), (1, .bool a1), (6, pt g2 0), (8, pt g24 0), (10, pt g549 0), (11, .bool x537.2), (12, pt g587 0), (13, .bool x574.2), (14, .bool ((((a0 == (1 : Int)) || (a0 == (2 : Int))) && (!a1)) && x574.2)), (107, .bool false)] (by kernel_rfl) ?_
    exact WR.keep [0, 1, 6, 8, 10, 11, 12, 13, 14, 107] (by kernel_rfl) (hM629 _ (Chg.refl [] w619))
   ·
    replace hg628 : ((x537.2 = true) ∧ (x574.2 = true)) ∧ ((a0 = (4 : Int)) ∨ (a0 = (5 : Int))) := ⟨⟨(bAndT (bAndT hg628).1).1, (bAndT (bAndT hg628).1).2⟩, (orMap (bOrT (bAndT hg628).2) (fun h => (bEqT h)) (fun h => (bEqT h)))⟩
    intro hM629
    refine WR.load (dst := some 104) (t := 25) (o := 0) hb627 (by kernel_rfl) (.agg #[.int .u64 x574.1.Lo, .int .u64 x574.1.Hi]) (by kernel_rfl) ?_
    refine WR.batch 1 [(0, .int .u8 a0), (1, .bool a1), (6, pt g2 0), (8, pt g24 0), (10, pt g549 0), (11, .bool x537.2), (12, pt g587 0), (13, .bool x574.2), (14, .bool ((((a0 == (1 : Int)) || (a0 == (2 : Int))) && (!a1)) && x574.2)), (103, .bool true), (104, .agg #[.int .u64 x574.1.Lo, .int .u64 x574.1.Hi]), (105, .bool a1)] (by kernel_rfl) ?_
    refine WR.call (dst := some 106) (by kernel_rfl) (kind_nought_any x574.1 a1 w619  ⟨(by omega), (by omega)⟩ ) ?_
    rintro _ w630 hc631 rfl
    have hz633 := hc631.size
    have hC632 := hC621.pure hc631
    have hb634 := hb623.pure hc631
    have hb635 := hb624.pure hc631
    have hb636 := hb625.pure hc631
    have hb637 := hb626.pure hc631
    have hb638 := hb627.pure hc631
    refine WR.batch 1 [(0, .int .u8 a0), (1, .bool a1), (6, pt g2 0), (8, pt g24 0), (10, pt g549 0), (11, .bool x537.2), (12, pt g587 0), (13, .bool x574.2), (14, .bool ((((a0 == (1 : Int)) || (a0 == (2 : Int))) && (!a1)) && x574.2)), (107, .bool (kind_nought x574.1 a1))] (by kernel_rfl) ?_
    exact WR.keep [0, 1, 6, 8, 10, 11, 12, 13, 14, 107] (by kernel_rfl) (hM629 _ ((Chg.refl [] w619).pure hc631))
  intro w639 hc640
  have hz642 := hc640.size
  have hC641 := hC621.pure hc640
  have hb643 := hb623.pure hc640
  have hb644 := hb624.pure hc640
  have hb645 := hb625.pure hc640
  have hb646 := hb626.pure hc640
  have hb647 := hb627.pure hc640
  refine WR.batch 1 [(0, .int .u8 a0), (1, .bool a1), (6, pt g2 0), (8, pt g24 0), (10, pt g549 0), (11, .bool x537.2), (12, pt g587 0), (13, .bool x574.2), (14, .bool ((((a0 == (1 : Int)) || (a0 == (2 : Int))) && (!a1)) && x574.2)), (90, .bool (((x537.2 && x574.2) && ((a0 == (4 : Int)) || (a0 == (5 : Int)))) && (kind_nought x574.1 a1)))] (by kernel_rfl) ?_
  refine WR.fin (by kernel_rfl) ?_
  refine go hK616 ?_
  refine CW.cond ((((x537.2 && x574.2) && ((a0 == (4 : Int)) || (a0 == (5 : Int)))) && (kind_nought x574.1 a1))) (by kernel_rfl) (fun ht648 => ?_) (fun ht648 => ?_)
  ·
   have hs649 := ifT ht648 hs577
   replace ht648 : (((x537.2 = true) ∧ (x574.2 = true)) ∧ ((a0 = (4 : Int)) ∨ (a0 = (5 : Int)))) ∧ ((kind_nought x574.1 a1) = true) := ⟨⟨⟨(bAndT (bAndT (bAndT ht648).1).1).1, (bAndT (bAndT (bAndT ht648).1).1).2⟩, (orMap (bOrT (bAndT (bAndT ht648).1).2) (fun h => (bEqT h)) (fun h => (bEqT h)))⟩, (bAndT ht648).2⟩
   refine CW.seq fun K650 hK650 => ?_
   refine CW.region ?_
   refine WR.batch 1 [(8, pt g24 0), (108, .agg #[.int .u8 0, .int .u64 0, .int .u64 0])] (by kernel_rfl) ?_
   refine WR.store (t := 56) (o := 0) (v := .agg #[.int .u8 0, .int .u64 0, .int .u64 0]) hb645 (by kernel_rfl) #[.int .u8 0, .int .u64 0, .int .u64 0] (by kernel_rfl) ?_
   intro w651 hb652 hc653
   have hz655 := hc653.size
   have hC654 := hC641.step1 hc653 (by omega)
   have hb656 := hb643.chg1 hc653 (by omega)
   have hb657 := hb644.chg1 hc653 (by omega)
   have hb658 := hb646.chg1 hc653 (by omega)
   have hb659 := hb647.chg1 hc653 (by omega)
   refine WR.batch 1 [(8, pt g24 0), (9, .int .i64 113)] (by kernel_rfl) ?_
   refine WR.fin (by kernel_rfl) ?_
   refine go hK650 ?_
   refine CW.ret ?_
   exact retC [.agg #[.int .u8 0, .int .u64 0, .int .u64 0], .int .i64 113] (.tuple #[.agg #[.int .u8 0, .int .u64 0, .int .u64 0], .int .i64 113]) rfl ⟨resCell hb652 rfl (by kernel_rfl), rfl, trivial⟩ (⟨hC654, (congrArg (fun r : (TKnown × Int) => (.tuple #[.agg #[.int .u8 r.1.Kind, .int .u64 r.1.In.Lo, .int .u64 r.1.In.Hi], .int .i64 r.2] : Value)) hs649).symm⟩)
  have hs660 := ifF ht648 hs577
  replace ht648 : (((x537.2 = false) ∨ (x574.2 = false)) ∨ ((a0 ≠ (4 : Int)) ∧ (a0 ≠ (5 : Int)))) ∨ ((kind_nought x574.1 a1) = false) := (orMap (bAndF ht648) (fun h => (orMap (bAndF h) (fun h => (orMap (bAndF h) (fun h => h) (fun h => h))) (fun h => ⟨(bEqF (bOrF h).1), (bEqF (bOrF h).2)⟩))) (fun h => h))
  refine CW.seq fun K661 hK661 => ?_
  refine CW.region ?_
  refine WR.batch 2 [(0, .int .u8 a0), (1, .bool a1), (6, pt g2 0), (8, pt g24 0), (10, pt g549 0), (12, pt g587 0), (13, .bool x574.2), (14, .bool ((((a0 == (1 : Int)) || (a0 == (2 : Int))) && (!a1)) && x574.2)), (111, .bool x537.2)] (by kernel_rfl) ?_
  refine WR.batch 2 [(0, .int .u8 a0), (1, .bool a1), (6, pt g2 0), (8, pt g24 0), (10, pt g549 0), (12, pt g587 0), (14, .bool ((((a0 == (1 : Int)) || (a0 == (2 : Int))) && (!a1)) && x574.2)), (113, .bool (x537.2 && x574.2))] (by generalize x537.2 = b; cases b <;> kernel_rfl) ?_
  refine WR.batch 1 [(0, .int .u8 a0), (1, .bool a1), (6, pt g2 0), (8, pt g24 0), (10, pt g549 0), (12, pt g587 0), (14, .bool ((((a0 == (1 : Int)) || (a0 == (2 : Int))) && (!a1)) && x574.2)), (109, .bool (x537.2 && x574.2))] (by kernel_rfl) ?_
  refine WR.fin (by kernel_rfl) ?_
  refine go hK661 ?_
  refine CW.cond ((x537.2 && x574.2)) (by kernel_rfl) (fun ht662 => ?_) (fun ht662 => ?_)
  ·
   have hs663 := ifT ht662 hs660
   replace ht662 : (x537.2 = true) ∧ (x574.2 = true) := ⟨(bAndT ht662).1, (bAndT ht662).2⟩
   refine CW.seq fun K664 hK664 => ?_
   refine CW.region ?_
   refine WR.batch 2 [(8, pt g24 0), (10, pt g549 0), (12, pt g587 0), (114, .int .u8 a0), (115, .bool a1)] (by kernel_rfl) ?_
   refine WR.load (dst := some 116) (t := 25) (o := 0) hb646 (by kernel_rfl) (.agg #[.int .u64 x537.1.Lo, .int .u64 x537.1.Hi]) (by kernel_rfl) ?_
   refine WR.load (dst := some 117) (t := 25) (o := 0) hb647 (by kernel_rfl) (.agg #[.int .u64 x574.1.Lo, .int .u64 x574.1.Hi]) (by kernel_rfl) ?_
   obtain ⟨x665, hx666⟩ : ∃ x, span_Do a0 a1 x537.1 x574.1 = x := ⟨_, rfl⟩
   have hs668 := letS hx666 hs663
   have hx669 : (0 ≤ x665.Lo ∧ x665.Lo ≤ 18446744073709551615) ∧ (0 ≤ x665.Hi ∧ x665.Hi ≤ 18446744073709551615) := by rw [← hx666]; exact span_Do_ok a0 a1 x537.1 x574.1 (by omega) ⟨(by omega), (by omega)⟩ ⟨(by omega), (by omega)⟩ 
   refine WR.call (dst := some 118) (by kernel_rfl) (retE (g := fun r : TSpan => (.agg #[.int .u64 r.Lo, .int .u64 r.Hi] : Value)) hx666 (span_Do_any a0 a1 x537.1 x574.1 w639  (by omega) ⟨(by omega), (by omega)⟩ ⟨(by omega), (by omega)⟩ )) ?_
   rintro _ w670 hc671 rfl
   have hz673 := hc671.size
   have hC672 := hC641.pure hc671
   have hb674 := hb643.pure hc671
   have hb675 := hb644.pure hc671
   have hb676 := hb645.pure hc671
   have hb677 := hb646.pure hc671
   have hb678 := hb647.pure hc671
   refine WR.batch 1 [(8, pt g24 0), (119, .agg #[.int .u8 1, .int .u64 x665.Lo, .int .u64 x665.Hi])] (by kernel_rfl) ?_
   refine WR.store (t := 56) (o := 0) (v := .agg #[.int .u8 1, .int .u64 x665.Lo, .int .u64 x665.Hi]) hb676 (by kernel_rfl) #[.int .u8 1, .int .u64 x665.Lo, .int .u64 x665.Hi] (by kernel_rfl) ?_
   intro w679 hb680 hc681
   have hz683 := hc681.size
   have hC682 := hC672.step1 hc681 (by omega)
   have hb684 := hb674.chg1 hc681 (by omega)
   have hb685 := hb675.chg1 hc681 (by omega)
   have hb686 := hb677.chg1 hc681 (by omega)
   have hb687 := hb678.chg1 hc681 (by omega)
   refine WR.batch 1 [(8, pt g24 0), (9, .int .i64 0)] (by kernel_rfl) ?_
   refine WR.fin (by kernel_rfl) ?_
   refine go hK664 ?_
   refine CW.ret ?_
   exact retC [.agg #[.int .u8 1, .int .u64 x665.Lo, .int .u64 x665.Hi], .int .i64 0] (.tuple #[.agg #[.int .u8 1, .int .u64 x665.Lo, .int .u64 x665.Hi], .int .i64 0]) rfl ⟨resCell hb680 rfl (by kernel_rfl), rfl, trivial⟩ (⟨hC682, (congrArg (fun r : (TKnown × Int) => (.tuple #[.agg #[.int .u8 r.1.Kind, .int .u64 r.1.In.Lo, .int .u64 r.1.In.Hi], .int .i64 r.2] : Value)) hs668).symm⟩)
  have hs688 := ifF ht662 hs660
  replace ht662 : (x537.2 = false) ∨ (x574.2 = false) := (orMap (bAndF ht662) (fun h => h) (fun h => h))
  refine CW.seq fun K689 hK689 => ?_
  refine CW.seq fun K690 hK690 => ?_
  refine CW.region ?_
  refine WR.batch 2 [(0, .int .u8 a0), (6, pt g2 0), (8, pt g24 0), (12, pt g587 0), (14, .bool ((((a0 == (1 : Int)) || (a0 == (2 : Int))) && (!a1)) && x574.2)), (122, .bool ((((a0 == (1 : Int)) || (a0 == (2 : Int))) && (!a1)) && x574.2))] (by kernel_rfl) ?_
  refine WR.mergeW 6 [(0, .int .u8 a0), (6, pt g2 0), (8, pt g24 0), (12, pt g587 0), (14, .bool ((((a0 == (1 : Int)) || (a0 == (2 : Int))) && (!a1)) && x574.2)), (126, .bool (((((a0 == (1 : Int)) || (a0 == (2 : Int))) && (!a1)) && x574.2) && (a2.Kind == (2 : Int))))] (fun w' => Chg [] w639 w') (fun Q' => ?_) ?_
  ·
   cases hg691 : ((((a0 == (1 : Int)) || (a0 == (2 : Int))) && (!a1)) && x574.2)
   ·
    replace hg691 : (((a0 ≠ (1 : Int)) ∧ (a0 ≠ (2 : Int))) ∨ (a1 = true)) ∨ (x574.2 = false) := (orMap (bAndF hg691) (fun h => (orMap (bAndF h) (fun h => ⟨(bEqF (bOrF h).1), (bEqF (bOrF h).2)⟩) (fun h => (bNotF h)))) (fun h => h))
    intro hM692
    refine WR.batch 4 [(0, .int .u8 a0), (6, pt g2 0), (8, pt g24 0), (12, pt g587 0), (14, .bool false), (126, .bool false)] (by kernel_rfl) ?_
    exact WR.keep [0, 6, 8, 12, 14, 126] (by kernel_rfl) (hM692 _ (Chg.refl [] w639))
   ·
    replace hg691 : (((a0 = (1 : Int)) ∨ (a0 = (2 : Int))) ∧ (a1 = false)) ∧ (x574.2 = true) := ⟨⟨(orMap (bOrT (bAndT (bAndT hg691).1).1) (fun h => (bEqT h)) (fun h => (bEqT h))), (bNotT (bAndT (bAndT hg691).1).2)⟩, (bAndT hg691).2⟩
    intro hM692
    refine WR.batch 1 [(0, .int .u8 a0), (6, pt g2 0), (8, pt g24 0), (12, pt g587 0), (14, .bool true), (122, .bool true), (123, pt g2 0)] (by kernel_rfl) ?_
    refine WR.load (dst := some 124) (t := 54) (o := 0) hb643 (by kernel_rfl) (.int .u8 a2.Kind) (by kernel_rfl) ?_
    refine WR.batch 2 [(0, .int .u8 a0), (6, pt g2 0), (8, pt g24 0), (12, pt g587 0), (14, .bool true), (126, .bool (a2.Kind == (2 : Int)))] (by kernel_rfl) ?_
    exact WR.keep [0, 6, 8, 12, 14, 126] (by kernel_rfl) (hM692 _ (Chg.refl [] w639))
  intro w693 hc694
  have hz696 := hc694.size
  have hC695 := hC641.pure hc694
  have hb697 := hb643.pure hc694
  have hb698 := hb644.pure hc694
  have hb699 := hb645.pure hc694
  have hb700 := hb646.pure hc694
  have hb701 := hb647.pure hc694
  refine WR.batch 1 [(0, .int .u8 a0), (6, pt g2 0), (8, pt g24 0), (12, pt g587 0), (14, .bool ((((a0 == (1 : Int)) || (a0 == (2 : Int))) && (!a1)) && x574.2)), (120, .bool (((((a0 == (1 : Int)) || (a0 == (2 : Int))) && (!a1)) && x574.2) && (a2.Kind == (2 : Int))))] (by kernel_rfl) ?_
  refine WR.fin (by kernel_rfl) ?_
  refine go hK690 ?_
  refine CW.cond ((((((a0 == (1 : Int)) || (a0 == (2 : Int))) && (!a1)) && x574.2) && (a2.Kind == (2 : Int)))) (by kernel_rfl) (fun ht702 => ?_) (fun ht702 => ?_)
  ·
   have hs703 := ifT ht702 hs688
   refine CW.keep [0, 6, 8, 12, 120] (F' := [(0, .int .u8 a0), (6, pt g2 0), (8, pt g24 0), (12, pt g587 0), (120, .bool (((((a0 == (1 : Int)) || (a0 == (2 : Int))) && (!a1)) && x574.2) && (a2.Kind == (2 : Int))))]) (by kernel_rfl) ?_
   refine CW.eqF (F' := [(0, .int .u8 a0), (6, pt g2 0), (8, pt g24 0), (12, pt g587 0), (120, .bool true)]) (by rw [ht702]) ?_
   have hk704 := ht702
   replace ht702 : ((((a0 = (1 : Int)) ∨ (a0 = (2 : Int))) ∧ (a1 = false)) ∧ (x574.2 = true)) ∧ (a2.Kind = (2 : Int)) := ⟨⟨⟨(orMap (bOrT (bAndT (bAndT (bAndT ht702).1).1).1) (fun h => (bEqT h)) (fun h => (bEqT h))), (bNotT (bAndT (bAndT (bAndT ht702).1).1).2)⟩, (bAndT (bAndT ht702).1).2⟩, (bEqT (bAndT ht702).2)⟩
   refine CW.skip ?_
   refine go hK689 ?_
   refine CW.yes (by kernel_rfl) ?_
   refine CW.seq fun K705 hK705 => ?_
   refine CW.keep [0, 6, 8, 12] (F' := [(0, .int .u8 a0), (6, pt g2 0), (8, pt g24 0), (12, pt g587 0)]) (by kernel_rfl) ?_
   refine CW.regionG 7 [some (pt g2 0), some (.int .u8 a2.Kind), some (.int .u8 a0), some (pt g2 1), some (.agg #[.int .u64 a2.In.Lo, .int .u64 a2.In.Hi]), some (.agg #[.int .u64 x574.1.Lo, .int .u64 x574.1.Hi]), some (.agg #[.int .u64 (span_Do a0 false a2.In x574.1).Lo, .int .u64 (span_Do a0 false a2.In x574.1).Hi])] (fun u => [(140, pt g2 0), (141, .int .u8 a2.Kind), (142, .int .u8 a0), (143, pt g2 1), (144, .agg #[.int .u64 a2.In.Lo, .int .u64 a2.In.Hi]), (145, .agg #[.int .u64 x574.1.Lo, .int .u64 x574.1.Hi]), (146, .agg #[.int .u64 (span_Do a0 false a2.In x574.1).Lo, .int .u64 (span_Do a0 false a2.In x574.1).Hi]), (0, .int .u8 a0), (6, pt g2 0), (8, pt g24 0), (12, pt g587 0)]) (fun _ => by kernel_rfl) (by kernel_rfl) [] (fun _ _ => True) (fun _ => trivial) (fun _ _ _ _ _ _ _ => trivial) [] [] (by kernel_rfl) (fun w' => Chg [] w693 w') (fun _ _ _ => True) (fun j x w hj h => absurd hj (by simp)) (by kernel_rfl) (by kernel_rfl) (by kernel_rfl) (by kernel_rfl) (Chg.drew w693) (fun _ _ _ h h' => h.step h' (fun t ht => .inl (cL_sub t ht))) (fun _ _ _ _ _ _ _ _ => trivial) (obsG_batch 1 0 6 (fun _ _ => by kernel_rfl) (by kernel_rfl) ⟨?_, (obsG_batch 2 2 3 (fun _ _ => by kernel_rfl) (by kernel_rfl) ⟨?_, ⟨?_, ⟨?_, trivial⟩⟩⟩)⟩) ?_
   ·
    intro u706 w707 hW708 _ hp709 hal710
    have hz713 := hW708.size
    have hC712 := hC695.pure hW708
    have hb714 := hb697.pure hW708
    have hb715 := hb698.pure hW708
    have hb716 := hb699.pure hW708
    have hb717 := hb700.pure hW708
    have hb718 := hb701.pure hW708
    refine WR.load (dst := some 141) (t := 54) (o := 0) hb714 (by kernel_rfl) (.int .u8 a2.Kind) (by kernel_rfl) ?_
    refine WR.fin (by kernel_rfl) ?_
    exact fun _ ha => ⟨Chg.refl _ _, _, ha, ⟨⟨fun h => absurd h (by decide), alNone (by decide)⟩, rfl⟩⟩
   ·
    intro u719 w720 hW721 _ hp722 hal723
    have hz726 := hW721.size
    have hC725 := hC695.pure hW721
    have hb727 := hb697.pure hW721
    have hb728 := hb698.pure hW721
    have hb729 := hb699.pure hW721
    have hb730 := hb700.pure hW721
    have hb731 := hb701.pure hW721
    refine WR.load (dst := some 144) (t := 25) (o := 1) hb727 (by kernel_rfl) (.agg #[.int .u64 a2.In.Lo, .int .u64 a2.In.Hi]) (by kernel_rfl) ?_
    refine WR.fin (by kernel_rfl) ?_
    exact fun _ ha => ⟨Chg.refl _ _, _, ha, ⟨⟨fun h => absurd h (by decide), alNone (by decide)⟩, rfl⟩⟩
   ·
    intro u732 w733 hW734 _ hp735 hal736
    have hz739 := hW734.size
    have hC738 := hC695.pure hW734
    have hb740 := hb697.pure hW734
    have hb741 := hb698.pure hW734
    have hb742 := hb699.pure hW734
    have hb743 := hb700.pure hW734
    have hb744 := hb701.pure hW734
    refine WR.load (dst := some 145) (t := 25) (o := 0) hb744 (by kernel_rfl) (.agg #[.int .u64 x574.1.Lo, .int .u64 x574.1.Hi]) (by kernel_rfl) ?_
    refine WR.fin (by kernel_rfl) ?_
    exact fun _ ha => ⟨Chg.refl _ _, _, ha, ⟨⟨fun h => absurd h (by decide), alNone (by decide)⟩, rfl⟩⟩
   ·
    intro u745 w746 hW747 _ hp748 hal749
    have hz752 := hW747.size
    have hC751 := hC695.pure hW747
    have hb753 := hb697.pure hW747
    have hb754 := hb698.pure hW747
    have hb755 := hb699.pure hW747
    have hb756 := hb700.pure hW747
    have hb757 := hb701.pure hW747
    have hx758 : (0 ≤ (span_Do a0 false a2.In x574.1).Lo ∧ (span_Do a0 false a2.In x574.1).Lo ≤ 18446744073709551615) ∧ (0 ≤ (span_Do a0 false a2.In x574.1).Hi ∧ (span_Do a0 false a2.In x574.1).Hi ≤ 18446744073709551615) := span_Do_ok a0 false a2.In x574.1 (by omega) ⟨(by omega), (by omega)⟩ ⟨(by omega), (by omega)⟩ 
    have hx759 : (0 ≤ (span_Do a0 false a2.In x574.1).Lo ∧ (span_Do a0 false a2.In x574.1).Lo ≤ 18446744073709551615) ∧ (0 ≤ (span_Do a0 false a2.In x574.1).Hi ∧ (span_Do a0 false a2.In x574.1).Hi ≤ 18446744073709551615) := span_Do_ok a0 false a2.In x574.1 (by omega) ⟨(by omega), (by omega)⟩ ⟨(by omega), (by omega)⟩ 
    refine WR.call (dst := some 146) (by kernel_rfl) (span_Do_any a0 false a2.In x574.1 w746  (by omega) ⟨(by omega), (by omega)⟩ ⟨(by omega), (by omega)⟩ ) ?_
    rintro _ w760 hc761 rfl
    have hz763 := hc761.size
    have hC762 := hC751.pure hc761
    have hb764 := hb753.pure hc761
    have hb765 := hb754.pure hc761
    have hb766 := hb755.pure hc761
    have hb767 := hb756.pure hc761
    have hb768 := hb757.pure hc761
    refine WR.fin (by kernel_rfl) ?_
    exact fun _ ha => ⟨hc761, _, ha, ⟨⟨fun h => absurd h (by decide), alNone (by decide)⟩, rfl⟩⟩
   intro u769 w770 hW771 _ _ _
   have hz776 := hW771.size
   have hC775 := hC695.pure hW771
   have hb777 := hb697.pure hW771
   have hb778 := hb698.pure hW771
   have hb779 := hb699.pure hW771
   have hb780 := hb700.pure hW771
   have hb781 := hb701.pure hW771
   have hx782 : (0 ≤ (span_Do a0 false a2.In x574.1).Lo ∧ (span_Do a0 false a2.In x574.1).Lo ≤ 18446744073709551615) ∧ (0 ≤ (span_Do a0 false a2.In x574.1).Hi ∧ (span_Do a0 false a2.In x574.1).Hi ≤ 18446744073709551615) := span_Do_ok a0 false a2.In x574.1 (by omega) ⟨(by omega), (by omega)⟩ ⟨(by omega), (by omega)⟩ 
   refine WR.keep [8, 141, 146] (F' := [(8, pt g24 0), (141, .int .u8 a2.Kind), (146, .agg #[.int .u64 (span_Do a0 false a2.In x574.1).Lo, .int .u64 (span_Do a0 false a2.In x574.1).Hi])]) (by kernel_rfl) ?_
   refine WR.batch 1 [(8, pt g24 0), (147, .agg #[.int .u8 a2.Kind, .int .u64 (span_Do a0 false a2.In x574.1).Lo, .int .u64 (span_Do a0 false a2.In x574.1).Hi])] (by kernel_rfl) ?_
   refine WR.store (t := 56) (o := 0) (v := .agg #[.int .u8 a2.Kind, .int .u64 (span_Do a0 false a2.In x574.1).Lo, .int .u64 (span_Do a0 false a2.In x574.1).Hi]) hb779 (by kernel_rfl) #[.int .u8 a2.Kind, .int .u64 (span_Do a0 false a2.In x574.1).Lo, .int .u64 (span_Do a0 false a2.In x574.1).Hi] (by kernel_rfl) ?_
   intro w783 hb784 hc785
   have hz787 := hc785.size
   have hC786 := hC775.step1 hc785 (by omega)
   have hb788 := hb777.chg1 hc785 (by omega)
   have hb789 := hb778.chg1 hc785 (by omega)
   have hb790 := hb780.chg1 hc785 (by omega)
   have hb791 := hb781.chg1 hc785 (by omega)
   refine WR.batch 1 [(8, pt g24 0), (9, .int .i64 0)] (by kernel_rfl) ?_
   refine WR.fin (by kernel_rfl) ?_
   refine go hK705 ?_
   refine CW.ret ?_
   exact retC [.agg #[.int .u8 a2.Kind, .int .u64 (span_Do a0 false a2.In x574.1).Lo, .int .u64 (span_Do a0 false a2.In x574.1).Hi], .int .i64 0] (.tuple #[.agg #[.int .u8 a2.Kind, .int .u64 (span_Do a0 false a2.In x574.1).Lo, .int .u64 (span_Do a0 false a2.In x574.1).Hi], .int .i64 0]) rfl ⟨resCell hb784 rfl (by kernel_rfl), rfl, trivial⟩ (⟨hC786, (congrArg (fun r : (TKnown × Int) => (.tuple #[.agg #[.int .u8 r.1.Kind, .int .u64 r.1.In.Lo, .int .u64 r.1.In.Hi], .int .i64 r.2] : Value)) hs703).symm⟩)
  have hs792 := ifF ht702 hs688
  replace ht702 : ((((a0 ≠ (1 : Int)) ∧ (a0 ≠ (2 : Int))) ∨ (a1 = true)) ∨ (x574.2 = false)) ∨ (a2.Kind ≠ (2 : Int)) := (orMap (bAndF ht702) (fun h => (orMap (bAndF h) (fun h => (orMap (bAndF h) (fun h => ⟨(bEqF (bOrF h).1), (bEqF (bOrF h).2)⟩) (fun h => (bNotF h)))) (fun h => h))) (fun h => (bEqF h)))
  refine CW.region ?_
  refine WR.batch 2 [(0, .int .u8 a0), (6, pt g2 0), (8, pt g24 0), (12, pt g587 0), (128, .bool ((((a0 == (1 : Int)) || (a0 == (2 : Int))) && (!a1)) && x574.2))] (by kernel_rfl) ?_
  refine WR.mergeW 6 [(0, .int .u8 a0), (6, pt g2 0), (8, pt g24 0), (12, pt g587 0), (132, .bool (((((a0 == (1 : Int)) || (a0 == (2 : Int))) && (!a1)) && x574.2) && (a2.Kind == (3 : Int))))] (fun w' => Chg [] w693 w') (fun Q' => ?_) ?_
  ·
   cases hg793 : ((((a0 == (1 : Int)) || (a0 == (2 : Int))) && (!a1)) && x574.2)
   ·
    replace hg793 : (((a0 ≠ (1 : Int)) ∧ (a0 ≠ (2 : Int))) ∨ (a1 = true)) ∨ (x574.2 = false) := (orMap (bAndF hg793) (fun h => (orMap (bAndF h) (fun h => ⟨(bEqF (bOrF h).1), (bEqF (bOrF h).2)⟩) (fun h => (bNotF h)))) (fun h => h))
    intro hM794
    refine WR.batch 4 [(0, .int .u8 a0), (6, pt g2 0), (8, pt g24 0), (12, pt g587 0), (132, .bool false)] (by kernel_rfl) ?_
    exact WR.keep [0, 6, 8, 12, 132] (by kernel_rfl) (hM794 _ (Chg.refl [] w693))
   ·
    replace hg793 : (((a0 = (1 : Int)) ∨ (a0 = (2 : Int))) ∧ (a1 = false)) ∧ (x574.2 = true) := ⟨⟨(orMap (bOrT (bAndT (bAndT hg793).1).1) (fun h => (bEqT h)) (fun h => (bEqT h))), (bNotT (bAndT (bAndT hg793).1).2)⟩, (bAndT hg793).2⟩
    intro hM794
    refine WR.batch 1 [(0, .int .u8 a0), (6, pt g2 0), (8, pt g24 0), (12, pt g587 0), (128, .bool true), (129, pt g2 0)] (by kernel_rfl) ?_
    refine WR.load (dst := some 130) (t := 54) (o := 0) hb697 (by kernel_rfl) (.int .u8 a2.Kind) (by kernel_rfl) ?_
    refine WR.batch 2 [(0, .int .u8 a0), (6, pt g2 0), (8, pt g24 0), (12, pt g587 0), (132, .bool (a2.Kind == (3 : Int)))] (by kernel_rfl) ?_
    exact WR.keep [0, 6, 8, 12, 132] (by kernel_rfl) (hM794 _ (Chg.refl [] w693))
  intro w795 hc796
  have hz798 := hc796.size
  have hC797 := hC695.pure hc796
  have hb799 := hb697.pure hc796
  have hb800 := hb698.pure hc796
  have hb801 := hb699.pure hc796
  have hb802 := hb700.pure hc796
  have hb803 := hb701.pure hc796
  have hx804 : (0 ≤ (span_Do a0 false a2.In x574.1).Lo ∧ (span_Do a0 false a2.In x574.1).Lo ≤ 18446744073709551615) ∧ (0 ≤ (span_Do a0 false a2.In x574.1).Hi ∧ (span_Do a0 false a2.In x574.1).Hi ≤ 18446744073709551615) := span_Do_ok a0 false a2.In x574.1 (by omega) ⟨(by omega), (by omega)⟩ ⟨(by omega), (by omega)⟩ 
  refine WR.batch 1 [(0, .int .u8 a0), (6, pt g2 0), (8, pt g24 0), (12, pt g587 0), (133, .bool (((((a0 == (1 : Int)) || (a0 == (2 : Int))) && (!a1)) && x574.2) && (a2.Kind == (3 : Int))))] (by kernel_rfl) ?_
  refine WR.mergeW 13 [(0, .int .u8 a0), (6, pt g2 0), (8, pt g24 0), (12, pt g587 0), (139, .bool ((((((a0 == (1 : Int)) || (a0 == (2 : Int))) && (!a1)) && x574.2) && (a2.Kind == (3 : Int))) && (x574.1.Lo == x574.1.Hi)))] (fun w' => Chg [] w795 w') (fun Q' => ?_) ?_
  ·
   cases hg805 : (((((a0 == (1 : Int)) || (a0 == (2 : Int))) && (!a1)) && x574.2) && (a2.Kind == (3 : Int)))
   ·
    replace hg805 : ((((a0 ≠ (1 : Int)) ∧ (a0 ≠ (2 : Int))) ∨ (a1 = true)) ∨ (x574.2 = false)) ∨ (a2.Kind ≠ (3 : Int)) := (orMap (bAndF hg805) (fun h => (orMap (bAndF h) (fun h => (orMap (bAndF h) (fun h => ⟨(bEqF (bOrF h).1), (bEqF (bOrF h).2)⟩) (fun h => (bNotF h)))) (fun h => h))) (fun h => (bEqF h)))
    intro hM806
    refine WR.batch 6 [(0, .int .u8 a0), (6, pt g2 0), (8, pt g24 0), (12, pt g587 0), (139, .bool false)] (by kernel_rfl) ?_
    exact WR.keep [0, 6, 8, 12, 139] (by kernel_rfl) (hM806 _ (Chg.refl [] w795))
   ·
    replace hg805 : ((((a0 = (1 : Int)) ∨ (a0 = (2 : Int))) ∧ (a1 = false)) ∧ (x574.2 = true)) ∧ (a2.Kind = (3 : Int)) := ⟨⟨⟨(orMap (bOrT (bAndT (bAndT (bAndT hg805).1).1).1) (fun h => (bEqT h)) (fun h => (bEqT h))), (bNotT (bAndT (bAndT (bAndT hg805).1).1).2)⟩, (bAndT (bAndT hg805).1).2⟩, (bEqT (bAndT hg805).2)⟩
    intro hM806
    refine WR.batch 1 [(0, .int .u8 a0), (6, pt g2 0), (8, pt g24 0), (12, pt g587 0), (133, .bool true), (134, pt g587 0)] (by kernel_rfl) ?_
    refine WR.load (dst := some 135) (t := 23) (o := 0) hb803 (by kernel_rfl) (.int .u64 x574.1.Lo) (by kernel_rfl) ?_
    refine WR.batch 1 [(0, .int .u8 a0), (6, pt g2 0), (8, pt g24 0), (12, pt g587 0), (133, .bool true), (135, .int .u64 x574.1.Lo), (136, pt g587 1)] (by kernel_rfl) ?_
    refine WR.load (dst := some 137) (t := 23) (o := 1) hb803 (by kernel_rfl) (.int .u64 x574.1.Hi) (by kernel_rfl) ?_
    refine WR.batch 2 [(0, .int .u8 a0), (6, pt g2 0), (8, pt g24 0), (12, pt g587 0), (139, .bool (x574.1.Lo == x574.1.Hi))] (by kernel_rfl) ?_
    exact WR.keep [0, 6, 8, 12, 139] (by kernel_rfl) (hM806 _ (Chg.refl [] w795))
  intro w807 hc808
  have hz810 := hc808.size
  have hC809 := hC797.pure hc808
  have hb811 := hb799.pure hc808
  have hb812 := hb800.pure hc808
  have hb813 := hb801.pure hc808
  have hb814 := hb802.pure hc808
  have hb815 := hb803.pure hc808
  have hx816 : (0 ≤ (span_Do a0 false a2.In x574.1).Lo ∧ (span_Do a0 false a2.In x574.1).Lo ≤ 18446744073709551615) ∧ (0 ≤ (span_Do a0 false a2.In x574.1).Hi ∧ (span_Do a0 false a2.In x574.1).Hi ≤ 18446744073709551615) := span_Do_ok a0 false a2.In x574.1 (by omega) ⟨(by omega), (by omega)⟩ ⟨(by omega), (by omega)⟩ 
  refine WR.batch 1 [(0, .int .u8 a0), (6, pt g2 0), (8, pt g24 0), (12, pt g587 0), (120, .bool ((((((a0 == (1 : Int)) || (a0 == (2 : Int))) && (!a1)) && x574.2) && (a2.Kind == (3 : Int))) && (x574.1.Lo == x574.1.Hi)))] (by kernel_rfl) ?_
  refine WR.fin (by kernel_rfl) ?_
  refine go hK689 ?_
  refine CW.cond (((((((a0 == (1 : Int)) || (a0 == (2 : Int))) && (!a1)) && x574.2) && (a2.Kind == (3 : Int))) && (x574.1.Lo == x574.1.Hi))) (by kernel_rfl) (fun ht817 => ?_) (fun ht817 => ?_)
  ·
   have hs818 := ifT ht817 hs792
   replace ht817 : (((((a0 = (1 : Int)) ∨ (a0 = (2 : Int))) ∧ (a1 = false)) ∧ (x574.2 = true)) ∧ (a2.Kind = (3 : Int))) ∧ (x574.1.Lo = x574.1.Hi) := ⟨⟨⟨⟨(orMap (bOrT (bAndT (bAndT (bAndT (bAndT ht817).1).1).1).1) (fun h => (bEqT h)) (fun h => (bEqT h))), (bNotT (bAndT (bAndT (bAndT (bAndT ht817).1).1).1).2)⟩, (bAndT (bAndT (bAndT ht817).1).1).2⟩, (bEqT (bAndT (bAndT ht817).1).2)⟩, (bEqT (bAndT ht817).2)⟩
   refine CW.seq fun K819 hK819 => ?_
   refine CW.keep [0, 6, 8, 12] (F' := [(0, .int .u8 a0), (6, pt g2 0), (8, pt g24 0), (12, pt g587 0)]) (by kernel_rfl) ?_
   refine CW.regionG 7 [some (pt g2 0), some (.int .u8 a2.Kind), some (.int .u8 a0), some (pt g2 1), some (.agg #[.int .u64 a2.In.Lo, .int .u64 a2.In.Hi]), some (.agg #[.int .u64 x574.1.Lo, .int .u64 x574.1.Hi]), some (.agg #[.int .u64 (span_Do a0 false a2.In x574.1).Lo, .int .u64 (span_Do a0 false a2.In x574.1).Hi])] (fun u => [(140, pt g2 0), (141, .int .u8 a2.Kind), (142, .int .u8 a0), (143, pt g2 1), (144, .agg #[.int .u64 a2.In.Lo, .int .u64 a2.In.Hi]), (145, .agg #[.int .u64 x574.1.Lo, .int .u64 x574.1.Hi]), (146, .agg #[.int .u64 (span_Do a0 false a2.In x574.1).Lo, .int .u64 (span_Do a0 false a2.In x574.1).Hi]), (0, .int .u8 a0), (6, pt g2 0), (8, pt g24 0), (12, pt g587 0)]) (fun _ => by kernel_rfl) (by kernel_rfl) [] (fun _ _ => True) (fun _ => trivial) (fun _ _ _ _ _ _ _ => trivial) [] [] (by kernel_rfl) (fun w' => Chg [] w807 w') (fun _ _ _ => True) (fun j x w hj h => absurd hj (by simp)) (by kernel_rfl) (by kernel_rfl) (by kernel_rfl) (by kernel_rfl) (Chg.drew w807) (fun _ _ _ h h' => h.step h' (fun t ht => .inl (cL_sub t ht))) (fun _ _ _ _ _ _ _ _ => trivial) (obsG_batch 1 0 6 (fun _ _ => by kernel_rfl) (by kernel_rfl) ⟨?_, (obsG_batch 2 2 3 (fun _ _ => by kernel_rfl) (by kernel_rfl) ⟨?_, ⟨?_, ⟨?_, trivial⟩⟩⟩)⟩) ?_
   ·
    intro u820 w821 hW822 _ hp823 hal824
    have hz827 := hW822.size
    have hC826 := hC809.pure hW822
    have hb828 := hb811.pure hW822
    have hb829 := hb812.pure hW822
    have hb830 := hb813.pure hW822
    have hb831 := hb814.pure hW822
    have hb832 := hb815.pure hW822
    refine WR.load (dst := some 141) (t := 54) (o := 0) hb828 (by kernel_rfl) (.int .u8 a2.Kind) (by kernel_rfl) ?_
    refine WR.fin (by kernel_rfl) ?_
    exact fun _ ha => ⟨Chg.refl _ _, _, ha, ⟨⟨fun h => absurd h (by decide), alNone (by decide)⟩, rfl⟩⟩
   ·
    intro u833 w834 hW835 _ hp836 hal837
    have hz840 := hW835.size
    have hC839 := hC809.pure hW835
    have hb841 := hb811.pure hW835
    have hb842 := hb812.pure hW835
    have hb843 := hb813.pure hW835
    have hb844 := hb814.pure hW835
    have hb845 := hb815.pure hW835
    refine WR.load (dst := some 144) (t := 25) (o := 1) hb841 (by kernel_rfl) (.agg #[.int .u64 a2.In.Lo, .int .u64 a2.In.Hi]) (by kernel_rfl) ?_
    refine WR.fin (by kernel_rfl) ?_
    exact fun _ ha => ⟨Chg.refl _ _, _, ha, ⟨⟨fun h => absurd h (by decide), alNone (by decide)⟩, rfl⟩⟩
   ·
    intro u846 w847 hW848 _ hp849 hal850
    have hz853 := hW848.size
    have hC852 := hC809.pure hW848
    have hb854 := hb811.pure hW848
    have hb855 := hb812.pure hW848
    have hb856 := hb813.pure hW848
    have hb857 := hb814.pure hW848
    have hb858 := hb815.pure hW848
    refine WR.load (dst := some 145) (t := 25) (o := 0) hb858 (by kernel_rfl) (.agg #[.int .u64 x574.1.Lo, .int .u64 x574.1.Hi]) (by kernel_rfl) ?_
    refine WR.fin (by kernel_rfl) ?_
    exact fun _ ha => ⟨Chg.refl _ _, _, ha, ⟨⟨fun h => absurd h (by decide), alNone (by decide)⟩, rfl⟩⟩
   ·
    intro u859 w860 hW861 _ hp862 hal863
    have hz866 := hW861.size
    have hC865 := hC809.pure hW861
    have hb867 := hb811.pure hW861
    have hb868 := hb812.pure hW861
    have hb869 := hb813.pure hW861
    have hb870 := hb814.pure hW861
    have hb871 := hb815.pure hW861
    have hx872 : (0 ≤ (span_Do a0 false a2.In x574.1).Lo ∧ (span_Do a0 false a2.In x574.1).Lo ≤ 18446744073709551615) ∧ (0 ≤ (span_Do a0 false a2.In x574.1).Hi ∧ (span_Do a0 false a2.In x574.1).Hi ≤ 18446744073709551615) := span_Do_ok a0 false a2.In x574.1 (by omega) ⟨(by omega), (by omega)⟩ ⟨(by omega), (by omega)⟩ 
    have hx873 : (0 ≤ (span_Do a0 false a2.In x574.1).Lo ∧ (span_Do a0 false a2.In x574.1).Lo ≤ 18446744073709551615) ∧ (0 ≤ (span_Do a0 false a2.In x574.1).Hi ∧ (span_Do a0 false a2.In x574.1).Hi ≤ 18446744073709551615) := span_Do_ok a0 false a2.In x574.1 (by omega) ⟨(by omega), (by omega)⟩ ⟨(by omega), (by omega)⟩ 
    refine WR.call (dst := some 146) (by kernel_rfl) (span_Do_any a0 false a2.In x574.1 w860  (by omega) ⟨(by omega), (by omega)⟩ ⟨(by omega), (by omega)⟩ ) ?_
    rintro _ w874 hc875 rfl
    have hz877 := hc875.size
    have hC876 := hC865.pure hc875
    have hb878 := hb867.pure hc875
    have hb879 := hb868.pure hc875
    have hb880 := hb869.pure hc875
    have hb881 := hb870.pure hc875
    have hb882 := hb871.pure hc875
    refine WR.fin (by kernel_rfl) ?_
    exact fun _ ha => ⟨hc875, _, ha, ⟨⟨fun h => absurd h (by decide), alNone (by decide)⟩, rfl⟩⟩
   intro u883 w884 hW885 _ _ _
   have hz890 := hW885.size
   have hC889 := hC809.pure hW885
   have hb891 := hb811.pure hW885
   have hb892 := hb812.pure hW885
   have hb893 := hb813.pure hW885
   have hb894 := hb814.pure hW885
   have hb895 := hb815.pure hW885
   have hx896 : (0 ≤ (span_Do a0 false a2.In x574.1).Lo ∧ (span_Do a0 false a2.In x574.1).Lo ≤ 18446744073709551615) ∧ (0 ≤ (span_Do a0 false a2.In x574.1).Hi ∧ (span_Do a0 false a2.In x574.1).Hi ≤ 18446744073709551615) := span_Do_ok a0 false a2.In x574.1 (by omega) ⟨(by omega), (by omega)⟩ ⟨(by omega), (by omega)⟩ 
   refine WR.keep [8, 141, 146] (F' := [(8, pt g24 0), (141, .int .u8 a2.Kind), (146, .agg #[.int .u64 (span_Do a0 false a2.In x574.1).Lo, .int .u64 (span_Do a0 false a2.In x574.1).Hi])]) (by kernel_rfl) ?_
   refine WR.batch 1 [(8, pt g24 0), (147, .agg #[.int .u8 a2.Kind, .int .u64 (span_Do a0 false a2.In x574.1).Lo, .int .u64 (span_Do a0 false a2.In x574.1).Hi])] (by kernel_rfl) ?_
   refine WR.store (t := 56) (o := 0) (v := .agg #[.int .u8 a2.Kind, .int .u64 (span_Do a0 false a2.In x574.1).Lo, .int .u64 (span_Do a0 false a2.In x574.1).Hi]) hb893 (by kernel_rfl) #[.int .u8 a2.Kind, .int .u64 (span_Do a0 false a2.In x574.1).Lo, .int .u64 (span_Do a0 false a2.In x574.1).Hi] (by kernel_rfl) ?_
   intro w897 hb898 hc899
   have hz901 := hc899.size
   have hC900 := hC889.step1 hc899 (by omega)
   have hb902 := hb891.chg1 hc899 (by omega)
   have hb903 := hb892.chg1 hc899 (by omega)
   have hb904 := hb894.chg1 hc899 (by omega)
   have hb905 := hb895.chg1 hc899 (by omega)
   refine WR.batch 1 [(8, pt g24 0), (9, .int .i64 0)] (by kernel_rfl) ?_
   refine WR.fin (by kernel_rfl) ?_
   refine go hK819 ?_
   refine CW.ret ?_
   exact retC [.agg #[.int .u8 a2.Kind, .int .u64 (span_Do a0 false a2.In x574.1).Lo, .int .u64 (span_Do a0 false a2.In x574.1).Hi], .int .i64 0] (.tuple #[.agg #[.int .u8 a2.Kind, .int .u64 (span_Do a0 false a2.In x574.1).Lo, .int .u64 (span_Do a0 false a2.In x574.1).Hi], .int .i64 0]) rfl ⟨resCell hb898 rfl (by kernel_rfl), rfl, trivial⟩ (⟨hC900, (congrArg (fun r : (TKnown × Int) => (.tuple #[.agg #[.int .u8 r.1.Kind, .int .u64 r.1.In.Lo, .int .u64 r.1.In.Hi], .int .i64 r.2] : Value)) hs818).symm⟩)
  have hs906 := ifF ht817 hs792
  replace ht817 : (((((a0 ≠ (1 : Int)) ∧ (a0 ≠ (2 : Int))) ∨ (a1 = true)) ∨ (x574.2 = false)) ∨ (a2.Kind ≠ (3 : Int))) ∨ (x574.1.Lo ≠ x574.1.Hi) := (orMap (bAndF ht817) (fun h => (orMap (bAndF h) (fun h => (orMap (bAndF h) (fun h => (orMap (bAndF h) (fun h => ⟨(bEqF (bOrF h).1), (bEqF (bOrF h).2)⟩) (fun h => (bNotF h)))) (fun h => h))) (fun h => (bEqF h)))) (fun h => (bEqF h)))
  refine CW.skip ?_
  refine go hK615 ?_
  refine CW.seq fun K907 hK907 => ?_
  refine CW.region ?_
  refine WR.batch 1 [(8, pt g24 0), (148, .agg #[.int .u8 0, .int .u64 0, .int .u64 0])] (by kernel_rfl) ?_
  refine WR.store (t := 56) (o := 0) (v := .agg #[.int .u8 0, .int .u64 0, .int .u64 0]) hb813 (by kernel_rfl) #[.int .u8 0, .int .u64 0, .int .u64 0] (by kernel_rfl) ?_
  intro w908 hb909 hc910
  have hz912 := hc910.size
  have hC911 := hC809.step1 hc910 (by omega)
  have hb913 := hb811.chg1 hc910 (by omega)
  have hb914 := hb812.chg1 hc910 (by omega)
  have hb915 := hb814.chg1 hc910 (by omega)
  have hb916 := hb815.chg1 hc910 (by omega)
  refine WR.batch 1 [(8, pt g24 0), (9, .int .i64 114)] (by kernel_rfl) ?_
  refine WR.fin (by kernel_rfl) ?_
  refine go hK907 ?_
  refine CW.ret ?_
  exact retC [.agg #[.int .u8 0, .int .u64 0, .int .u64 0], .int .i64 114] (.tuple #[.agg #[.int .u8 0, .int .u64 0, .int .u64 0], .int .i64 114]) rfl ⟨resCell hb909 rfl (by kernel_rfl), rfl, trivial⟩ (⟨hC911, (congrArg (fun r : (TKnown × Int) => (.tuple #[.agg #[.int .u8 r.1.Kind, .int .u64 r.1.In.Lo, .int .u64 r.1.In.Hi], .int .i64 r.2] : Value)) hs906).symm⟩)
 have hs917 := ifF ht527 hs525
 replace ht527 : a0 ≠ (13 : Int) := (bEqF ht527)
 refine CW.skip ?_
 refine go hK38 ?_
 refine CW.seq fun K918 hK918 => ?_
 refine CW.region ?_
 refine WR.load (dst := some 68) (t := 56) (o := 0) hb108 (by kernel_rfl) (.agg #[.int .u8 a2.Kind, .int .u64 a2.In.Lo, .int .u64 a2.In.Hi]) (by kernel_rfl) ?_
 obtain ⟨x919, hx920⟩ : ∃ x, kind_number a2 = x := ⟨_, rfl⟩
 have hs922 := letS hx920 hs917
 have hx923 : (0 ≤ x919.1.Lo ∧ x919.1.Lo ≤ 18446744073709551615) ∧ (0 ≤ x919.1.Hi ∧ x919.1.Hi ≤ 18446744073709551615) := by rw [← hx920]; exact kind_number_ok a2 ⟨(by omega), (by omega), (by omega)⟩ 
 refine WR.call (dst := some 69) (by kernel_rfl) (retE (g := fun r : (TSpan × Bool) => (.tuple #[.agg #[.int .u64 r.1.Lo, .int .u64 r.1.Hi], .bool r.2] : Value)) hx920 (kind_number_any a2 w104  ⟨(by omega), (by omega), (by omega)⟩ )) ?_
 rintro _ w924 hc925 rfl
 have hz927 := hc925.size
 have hC926 := hC106.pure hc925
 have hb928 := hb108.pure hc925
 have hb929 := hb109.pure hc925
 have hb930 := hb110.pure hc925
 refine WR.batch 3 [(0, .int .u8 a0), (1, .bool a1), (6, pt g2 0), (7, pt g12 0), (8, pt g24 0), (70, .agg #[.int .u64 x919.1.Lo, .int .u64 x919.1.Hi]), (71, .bool x919.2)] (by kernel_rfl) ?_
 refine WR.alloc (dst := some 10) (e := 25) (by kernel_rfl) #[.int .u64 0, .int .u64 0] (by kernel_rfl) ?_
 intro g931 w932 hN933
 have hl936 : g2 < g931 := Nat.lt_of_lt_of_le hb928.lt hN933.fresh
 have hl937 : g12 < g931 := Nat.lt_of_lt_of_le hb929.lt hN933.fresh
 have hl938 : g24 < g931 := Nat.lt_of_lt_of_le hb930.lt hN933.fresh
 have hf935 : w.heap.size ≤ g931 := Nat.le_trans hC926.size hN933.fresh
 have hfr940 := hN933.fresh
 have hc939 := hN933.chg
 have hz942 := hc939.size
 have hC941 := hC926.pure hc939
 have hb943 := hb928.pure hc939
 have hb944 := hb929.pure hc939
 have hb945 := hb930.pure hc939
 have hb934 := hN933.blk
 have hg946 := hb934.lt
 refine WR.store (t := 25) (o := 0) (v := .agg #[.int .u64 x919.1.Lo, .int .u64 x919.1.Hi]) hb934 (by kernel_rfl) #[.int .u64 x919.1.Lo, .int .u64 x919.1.Hi] (by kernel_rfl) ?_
 intro w947 hb948 hc949
 have hz951 := hc949.size
 have hC950 := hC941.step1 hc949 (by omega)
 have hb952 := hb943.chg1 hc949 (by omega)
 have hb953 := hb944.chg1 hc949 (by omega)
 have hb954 := hb945.chg1 hc949 (by omega)
 refine WR.batch 1 [(0, .int .u8 a0), (1, .bool a1), (6, pt g2 0), (7, pt g12 0), (8, pt g24 0), (10, pt g931 0), (11, .bool x919.2)] (by kernel_rfl) ?_
 refine WR.fin (by kernel_rfl) ?_
 refine go hK918 ?_
 refine CW.seq fun K955 hK955 => ?_
 refine CW.region ?_
 refine WR.load (dst := some 73) (t := 56) (o := 0) hb953 (by kernel_rfl) (.agg #[.int .u8 a3.Kind, .int .u64 a3.In.Lo, .int .u64 a3.In.Hi]) (by kernel_rfl) ?_
 obtain ⟨x956, hx957⟩ : ∃ x, kind_number a3 = x := ⟨_, rfl⟩
 have hs959 := letS hx957 hs922
 have hx960 : (0 ≤ x956.1.Lo ∧ x956.1.Lo ≤ 18446744073709551615) ∧ (0 ≤ x956.1.Hi ∧ x956.1.Hi ≤ 18446744073709551615) := by rw [← hx957]; exact kind_number_ok a3 ⟨(by omega), (by omega), (by omega)⟩ 
 refine WR.call (dst := some 74) (by kernel_rfl) (retE (g := fun r : (TSpan × Bool) => (.tuple #[.agg #[.int .u64 r.1.Lo, .int .u64 r.1.Hi], .bool r.2] : Value)) hx957 (kind_number_any a3 w947  ⟨(by omega), (by omega), (by omega)⟩ )) ?_
 rintro _ w961 hc962 rfl
 have hz964 := hc962.size
 have hC963 := hC950.pure hc962
 have hb965 := hb952.pure hc962
 have hb966 := hb953.pure hc962
 have hb967 := hb954.pure hc962
 have hb968 := hb948.pure hc962
 refine WR.batch 3 [(0, .int .u8 a0), (1, .bool a1), (6, pt g2 0), (8, pt g24 0), (10, pt g931 0), (11, .bool x919.2), (75, .agg #[.int .u64 x956.1.Lo, .int .u64 x956.1.Hi]), (76, .bool x956.2)] (by kernel_rfl) ?_
 refine WR.alloc (dst := some 12) (e := 25) (by kernel_rfl) #[.int .u64 0, .int .u64 0] (by kernel_rfl) ?_
 intro g969 w970 hN971
 have hl974 : g2 < g969 := Nat.lt_of_lt_of_le hb965.lt hN971.fresh
 have hl975 : g12 < g969 := Nat.lt_of_lt_of_le hb966.lt hN971.fresh
 have hl976 : g24 < g969 := Nat.lt_of_lt_of_le hb967.lt hN971.fresh
 have hl977 : g931 < g969 := Nat.lt_of_lt_of_le hb968.lt hN971.fresh
 have hf973 : w.heap.size ≤ g969 := Nat.le_trans hC963.size hN971.fresh
 have hfr979 := hN971.fresh
 have hc978 := hN971.chg
 have hz981 := hc978.size
 have hC980 := hC963.pure hc978
 have hb982 := hb965.pure hc978
 have hb983 := hb966.pure hc978
 have hb984 := hb967.pure hc978
 have hb985 := hb968.pure hc978
 have hb972 := hN971.blk
 have hg986 := hb972.lt
 refine WR.store (t := 25) (o := 0) (v := .agg #[.int .u64 x956.1.Lo, .int .u64 x956.1.Hi]) hb972 (by kernel_rfl) #[.int .u64 x956.1.Lo, .int .u64 x956.1.Hi] (by kernel_rfl) ?_
 intro w987 hb988 hc989
 have hz991 := hc989.size
 have hC990 := hC980.step1 hc989 (by omega)
 have hb992 := hb982.chg1 hc989 (by omega)
 have hb993 := hb983.chg1 hc989 (by omega)
 have hb994 := hb984.chg1 hc989 (by omega)
 have hb995 := hb985.chg1 hc989 (by omega)
 refine WR.batch 1 [(0, .int .u8 a0), (1, .bool a1), (6, pt g2 0), (8, pt g24 0), (10, pt g931 0), (11, .bool x919.2), (12, pt g969 0), (13, .bool x956.2)] (by kernel_rfl) ?_
 refine WR.fin (by kernel_rfl) ?_
 refine go hK955 ?_
 refine CW.seq fun K996 hK996 => ?_
 refine CW.region ?_
 refine WR.batch 3 [(0, .int .u8 a0), (1, .bool a1), (6, pt g2 0), (8, pt g24 0), (10, pt g931 0), (11, .bool x919.2), (12, pt g969 0), (13, .bool x956.2), (79, .bool (a0 == (1 : Int)))] (by kernel_rfl) ?_
 refine WR.batch 3 [(0, .int .u8 a0), (1, .bool a1), (6, pt g2 0), (8, pt g24 0), (10, pt g931 0), (11, .bool x919.2), (12, pt g969 0), (13, .bool x956.2), (82, .bool ((a0 == (1 : Int)) || (a0 == (2 : Int))))] (by generalize (a0 == (1 : Int)) = b; cases b <;> kernel_rfl) ?_
 refine WR.batch 1 [(0, .int .u8 a0), (1, .bool a1), (6, pt g2 0), (8, pt g24 0), (10, pt g931 0), (11, .bool x919.2), (12, pt g969 0), (13, .bool x956.2), (83, .bool ((a0 == (1 : Int)) || (a0 == (2 : Int))))] (by kernel_rfl) ?_
 refine WR.batch 3 [(0, .int .u8 a0), (1, .bool a1), (6, pt g2 0), (8, pt g24 0), (10, pt g931 0), (11, .bool x919.2), (12, pt g969 0), (13, .bool x956.2), (86, .bool (((a0 == (1 : Int)) || (a0 == (2 : Int))) && (!a1)))] (by generalize ((a0 == (1 : Int)) || (a0 == (2 : Int))) = b; cases b <;> kernel_rfl) ?_
 refine WR.batch 1 [(0, .int .u8 a0), (1, .bool a1), (6, pt g2 0), (8, pt g24 0), (10, pt g931 0), (11, .bool x919.2), (12, pt g969 0), (13, .bool x956.2), (87, .bool (((a0 == (1 : Int)) || (a0 == (2 : Int))) && (!a1)))] (by kernel_rfl) ?_
 refine WR.batch 2 [(0, .int .u8 a0), (1, .bool a1), (6, pt g2 0), (8, pt g24 0), (10, pt g931 0), (11, .bool x919.2), (12, pt g969 0), (13, .bool x956.2), (89, .bool ((((a0 == (1 : Int)) || (a0 == (2 : Int))) && (!a1)) && x956.2))] (by generalize (((a0 == (1 : Int)) || (a0 == (2 : Int))) && (!a1)) = b; cases b <;> kernel_rfl) ?_
 refine WR.batch 1 [(0, .int .u8 a0), (1, .bool a1), (6, pt g2 0), (8, pt g24 0), (10, pt g931 0), (11, .bool x919.2), (12, pt g969 0), (13, .bool x956.2), (14, .bool ((((a0 == (1 : Int)) || (a0 == (2 : Int))) && (!a1)) && x956.2))] (by kernel_rfl) ?_
 refine WR.fin (by kernel_rfl) ?_
 refine go hK996 ?_
 refine CW.seq fun K997 hK997 => ?_
 refine CW.block ?_
 refine CW.seq fun K998 hK998 => ?_
 refine CW.region ?_
 refine WR.batch 2 [(0, .int .u8 a0), (1, .bool a1), (6, pt g2 0), (8, pt g24 0), (10, pt g931 0), (11, .bool x919.2), (12, pt g969 0), (13, .bool x956.2), (14, .bool ((((a0 == (1 : Int)) || (a0 == (2 : Int))) && (!a1)) && x956.2)), (92, .bool x919.2)] (by kernel_rfl) ?_
 refine WR.batch 2 [(0, .int .u8 a0), (1, .bool a1), (6, pt g2 0), (8, pt g24 0), (10, pt g931 0), (11, .bool x919.2), (12, pt g969 0), (13, .bool x956.2), (14, .bool ((((a0 == (1 : Int)) || (a0 == (2 : Int))) && (!a1)) && x956.2)), (94, .bool (x919.2 && x956.2))] (by generalize x919.2 = b; cases b <;> kernel_rfl) ?_
 refine WR.batch 1 [(0, .int .u8 a0), (1, .bool a1), (6, pt g2 0), (8, pt g24 0), (10, pt g931 0), (11, .bool x919.2), (12, pt g969 0), (13, .bool x956.2), (14, .bool ((((a0 == (1 : Int)) || (a0 == (2 : Int))) && (!a1)) && x956.2)), (95, .bool (x919.2 && x956.2))] (by kernel_rfl) ?_
 refine WR.mergeW 12 [(0, .int .u8 a0), (1, .bool a1), (6, pt g2 0), (8, pt g24 0), (10, pt g931 0), (11, .bool x919.2), (12, pt g969 0), (13, .bool x956.2), (14, .bool ((((a0 == (1 : Int)) || (a0 == (2 : Int))) && (!a1)) && x956.2)), (102, .bool ((x919.2 && x956.2) && ((a0 == (4 : Int)) || (a0 == (5 : Int)))))] (fun w' => Chg [] w987 w') (fun Q' => ?_) ?_
 ·
  cases hg999 : (x919.2 && x956.2)
  ·
   replace hg999 : (x919.2 = false) ∨ (x956.2 = false) := (orMap (bAndF hg999) (fun h => h) (fun h => h))
   intro hM1000
   refine WR.batch 7 [(0, .int .u8 a0), (1, .bool a1), (6, pt g2 0), (8, pt g24 0), (10, pt g931 0), (11, .bool x919.2), (12, pt g969 0), (13, .bool x956.2), (14, .bool ((((a0 == (1 : Int)) || (a0 == (2 : Int))) && (!a1)) && x956.2)), (102, .bool false)] (by kernel_rfl) ?_
   exact WR.keep [0, 1, 6, 8, 10, 11, 12, 13, 14, 102] (by kernel_rfl) (hM1000 _ (Chg.refl [] w987))
  ·
   replace hg999 : (x919.2 = true) ∧ (x956.2 = true) := ⟨(bAndT hg999).1, (bAndT hg999).2⟩
   intro hM1000
   refine WR.batch 3 [(0, .int .u8 a0), (1, .bool a1), (6, pt g2 0), (8, pt g24 0), (10, pt g931 0), (11, .bool x919.2), (12, pt g969 0), (13, .bool x956.2), (14, .bool ((((a0 == (1 : Int)) || (a0 == (2 : Int))) && (!a1)) && x956.2)), (95, .bool true), (98, .bool (a0 == (4 : Int)))] (by kernel_rfl) ?_
   refine WR.batch 3 [(0, .int .u8 a0), (1, .bool a1), (6, pt g2 0), (8, pt g24 0), (10, pt g931 0), (11, .bool x919.2), (12, pt g969 0), (13, .bool x956.2), (14, .bool ((((a0 == (1 : Int)) || (a0 == (2 : Int))) && (!a1)) && x956.2)), (95, .bool true), (101, .bool ((a0 == (4 : Int)) || (a0 == (5 : Int))))] (by generalize (a0 == (4 : Int)) = b; cases b <;> kernel_rfl) ?_
   refine WR.batch 1 [(0, .int .u8 a0), (1, .bool a1), (6, pt g2 0), (8, pt g24 0), (10, pt g931 0), (11, .bool x919.2), (12, pt g969 0), (13, .bool x956.2), (14, .bool ((((a0 == (1 : Int)) || (a0 == (2 : Int))) && (!a1)) && x956.2)), (102, .bool ((a0 == (4 : Int)) || (a0 == (5 : Int))))] (by kernel_rfl) ?_
   exact WR.keep [0, 1, 6, 8, 10, 11, 12, 13, 14, 102] (by kernel_rfl) (hM1000 _ (Chg.refl [] w987))
 intro w1001 hc1002
 have hz1004 := hc1002.size
 have hC1003 := hC990.pure hc1002
 have hb1005 := hb992.pure hc1002
 have hb1006 := hb993.pure hc1002
 have hb1007 := hb994.pure hc1002
 have hb1008 := hb995.pure hc1002
 have hb1009 := hb988.pure hc1002
 refine WR.batch 1 [(0, .int .u8 a0), (1, .bool a1), (6, pt g2 0), (8, pt g24 0), (10, pt g931 0), (11, .bool x919.2), (12, pt g969 0), (13, .bool x956.2), (14, .bool ((((a0 == (1 : Int)) || (a0 == (2 : Int))) && (!a1)) && x956.2)), (103, .bool ((x919.2 && x956.2) && ((a0 == (4 : Int)) || (a0 == (5 : Int)))))] (by kernel_rfl) ?_
 refine WR.mergeW 17 [(0, .int .u8 a0), (1, .bool a1), (6, pt g2 0), (8, pt g24 0), (10, pt g931 0), (11, .bool x919.2), (12, pt g969 0), (13, .bool x956.2), (14, .bool ((((a0 == (1 : Int)) || (a0 == (2 : Int))) && (!a1)) && x956.2)), (107, .bool (((x919.2 && x956.2) && ((a0 == (4 : Int)) || (a0 == (5 : Int)))) && (kind_nought x956.1 a1)))] (fun w' => Chg [] w1001 w') (fun Q' => ?_) ?_
 ·
  cases hg1010 : ((x919.2 && x956.2) && ((a0 == (4 : Int)) || (a0 == (5 : Int))))
  ·
   replace hg1010 : ((x919.2 = false) ∨ (x956.2 = false)) ∨ ((a0 ≠ (4 : Int)) ∧ (a0 ≠ (5 : Int))) := (orMap (bAndF hg1010) (fun h => (orMap (bAndF h) (fun h => h) (fun h => h))) (fun h => ⟨(bEqF (bOrF h).1), (bEqF (bOrF h).2)⟩))
   intro hM1011
   refine WR.batch 4 [(0, .int .u8 a0), (1, .bool a1), (6, pt g2 0), (8, pt g24 0), (10, pt g931 0), (11, .bool x919.2), (12, pt g969 0), (13, .bool x956.2), (14, .bool ((((a0 == (1 : Int)) || (a0 == (2 : Int))) && (!a1)) && x956.2)), (107, .bool false)] (by kernel_rfl) ?_
   exact WR.keep [0, 1, 6, 8, 10, 11, 12, 13, 14, 107] (by kernel_rfl) (hM1011 _ (Chg.refl [] w1001))
  ·
   replace hg1010 : ((x919.2 = true) ∧ (x956.2 = true)) ∧ ((a0 = (4 : Int)) ∨ (a0 = (5 : Int))) := ⟨⟨(bAndT (bAndT hg1010).1).1, (bAndT (bAndT hg1010).1).2⟩, (orMap (bOrT (bAndT hg1010).2) (fun h => (bEqT h)) (fun h => (bEqT h)))⟩
   intro hM1011
   refine WR.load (dst := some 104) (t := 25) (o := 0) hb1009 (by kernel_rfl) (.agg #[.int .u64 x956.1.Lo, .int .u64 x956.1.Hi]) (by kernel_rfl) ?_
   refine WR.batch 1 [(0, .int .u8 a0), (1, .bool a1), (6, pt g2 0), (8, pt g24 0), (10, pt g931 0), (11, .bool x919.2), (12, pt g969 0), (13, .bool x956.2), (14, .bool ((((a0 == (1 : Int)) || (a0 == (2 : Int))) && (!a1)) && x956.2)), (103, .bool true), (104, .agg #[.int .u64 x956.1.Lo, .int .u64 x956.1.Hi]), (105, .bool a1)] (by kernel_rfl) ?_
   refine WR.call (dst := some 106) (by kernel_rfl) (kind_nought_any x956.1 a1 w1001  ⟨(by omega), (by omega)⟩ ) ?_
   rintro _ w1012 hc1013 rfl
   have hz1015 := hc1013.size
   have hC1014 := hC1003.pure hc1013
   have hb1016 := hb1005.pure hc1013
   have hb1017 := hb1006.pure hc1013
   have hb1018 := hb1007.pure hc1013
   have hb1019 := hb1008.pure hc1013
   have hb1020 := hb1009.pure hc1013
   refine WR.batch 1 [(0, .int .u8 a0), (1, .bool a1), (6, pt g2 0), (8, pt g24 0), (10, pt g931 0), (11, .bool x919.2), (12, pt g969 0), (13, .bool x956.2), (14, .bool ((((a0 == (1 : Int)) || (a0 == (2 : Int))) && (!a1)) && x956.2)), (107, .bool (kind_nought x956.1 a1))] (by kernel_rfl) ?_
   exact WR.keep [0, 1, 6, 8, 10, 11, 12, 13, 14, 107] (by kernel_rfl) (hM1011 _ ((Chg.refl [] w1001).pure hc1013))
 intro w1021 hc1022
 have hz1024 := hc1022.size
 have hC1023 := hC1003.pure hc1022
 have hb1025 := hb1005.pure hc1022
 have hb1026 := hb1006.pure hc1022
 have hb1027 := hb1007.pure hc1022
 have hb1028 := hb1008.pure hc1022
 have hb1029 := hb1009.pure hc1022
 refine WR.batch 1 [(0, .int .u8 a0), (1, .bool a1), (6, pt g2 0), (8, pt g24 0), (10, pt g931 0), (11, .bool x919.2), (12, pt g969 0), (13, .bool x956.2), (14, .bool ((((a0 == (1 : Int)) || (a0 == (2 : Int))) && (!a1)) && x956.2)), (90, .bool (((x919.2 && x956.2) && ((a0 == (4 : Int)) || (a0 == (5 : Int)))) && (kind_nought x956.1 a1)))] (by kernel_rfl) ?_
 refine WR.fin (by kernel_rfl) ?_
 refine go hK998 ?_
 refine CW.cond ((((x919.2 && x956.2) && ((a0 == (4 : Int)) || (a0 == (5 : Int)))) && (kind_nought x956.1 a1))) (by kernel_rfl) (fun ht1030 => ?_) (fun ht1030 => ?_)
 ·
  have hs1031 := ifT ht1030 hs959
  replace ht1030 : (((x919.2 = true) ∧ (x956.2 = true)) ∧ ((a0 = (4 : Int)) ∨ (a0 = (5 : Int)))) ∧ ((kind_nought x956.1 a1) = true) := ⟨⟨⟨(bAndT (bAndT (bAndT ht1030).1).1).1, (bAndT (bAndT (bAndT ht1030).1).1).2⟩, (orMap (bOrT (bAndT (bAndT ht1030).1).2) (fun h => (bEqT h)) (fun h => (bEqT h)))⟩, (bAndT ht1030).2⟩
  refine CW.seq fun K1032 hK1032 => ?_
  refine CW.region ?_
  refine WR.batch 1 [(8, pt g24 0), (108, .agg #[.int .u8 0, .int .u64 0, .int .u64 0])] (by kernel_rfl) ?_
  refine WR.store (t := 56) (o := 0) (v := .agg #[.int .u8 0, .int .u64 0, .int .u64 0]) hb1027 (by kernel_rfl) #[.int .u8 0, .int .u64 0, .int .u64 0] (by kernel_rfl) ?_
  intro w1033 hb1034 hc1035
  have hz1037 := hc1035.size
  have hC1036 := hC1023.step1 hc1035 (by omega)
  have hb1038 := hb1025.chg1 hc1035 (by omega)
  have hb1039 := hb1026.chg1 hc1035 (by omega)
  have hb1040 := hb1028.chg1 hc1035 (by omega)
  have hb1041 := hb1029.chg1 hc1035 (by omega)
  refine WR.batch 1 [(8, pt g24 0), (9, .int .i64 113)] (by kernel_rfl) ?_
  refine WR.fin (by kernel_rfl) ?_
  refine go hK1032 ?_
  refine CW.ret ?_
  exact retC [.agg #[.int .u8 0, .int .u64 0, .int .u64 0], .int .i64 113] (.tuple #[.agg #[.int .u8 0, .int .u64 0, .int .u64 0], .int .i64 113]) rfl ⟨resCell hb1034 rfl (by kernel_rfl), rfl, trivial⟩ (⟨hC1036, (congrArg (fun r : (TKnown × Int) => (.tuple #[.agg #[.int .u8 r.1.Kind, .int .u64 r.1.In.Lo, .int .u64 r.1.In.Hi], .int .i64 r.2] : Value)) hs1031).symm⟩)
 have hs1042 := ifF ht1030 hs959
 replace ht1030 : (((x919.2 = false) ∨ (x956.2 = false)) ∨ ((a0 ≠ (4 : Int)) ∧ (a0 ≠ (5 : Int)))) ∨ ((kind_nought x956.1 a1) = false) := (orMap (bAndF ht1030) (fun h => (orMap (bAndF h) (fun h => (orMap (bAndF h) (fun h => h) (fun h => h))) (fun h => ⟨(bEqF (bOrF h).1), (bEqF (bOrF h).2)⟩))) (fun h => h))
 refine CW.seq fun K1043 hK1043 => ?_
 refine CW.region ?_
 refine WR.batch 2 [(0, .int .u8 a0), (1, .bool a1), (6, pt g2 0), (8, pt g24 0), (10, pt g931 0), (12, pt g969 0), (13, .bool x956.2), (14, .bool ((((a0 == (1 : Int)) || (a0 == (2 : Int))) && (!a1)) && x956.2)), (111, .bool x919.2)] (by kernel_rfl) ?_
 refine WR.batch 2 [(0, .int .u8 a0), (1, .bool a1), (6, pt g2 0), (8, pt g24 0), (10, pt g931 0), (12, pt g969 0), (14, .bool ((((a0 == (1 : Int)) || (a0 == (2 : Int))) && (!a1)) && x956.2)), (113, .bool (x919.2 && x956.2))] (by generalize x919.2 = b; cases b <;> kernel_rfl) ?_
 refine WR.batch 1 [(0, .int .u8 a0), (1, .bool a1), (6, pt g2 0), (8, pt g24 0), (10, pt g931 0), (12, pt g969 0), (14, .bool ((((a0 == (1 : Int)) || (a0 == (2 : Int))) && (!a1)) && x956.2)), (109, .bool (x919.2 && x956.2))] (by kernel_rfl) ?_
 refine WR.fin (by kernel_rfl) ?_
 refine go hK1043 ?_
 refine CW.cond ((x919.2 && x956.2)) (by kernel_rfl) (fun ht1044 => ?_) (fun ht1044 => ?_)
 ·
  have hs1045 := ifT ht1044 hs1042
  replace ht1044 : (x919.2 = true) ∧ (x956.2 = true) := ⟨(bAndT ht1044).1, (bAndT ht1044).2⟩
  refine CW.seq fun K1046 hK1046 => ?_
  refine CW.region ?_
  refine WR.batch 2 [(8, pt g24 0), (10, pt g931 0), (12, pt g969 0), (114, .int .u8 a0), (115, .bool a1)] (by kernel_rfl) ?_
  refine WR.load (dst := some 116) (t := 25) (o := 0) hb1028 (by kernel_rfl) (.agg #[.int .u64 x919.1.Lo, .int .u64 x919.1.Hi]) (by kernel_rfl) ?_
  refine WR.load (dst := some 117) (t := 25) (o := 0) hb1029 (by kernel_rfl) (.agg #[.int .u64 x956.1.Lo, .int .u64 x956.1.Hi]) (by kernel_rfl) ?_
  obtain ⟨x1047, hx1048⟩ : ∃ x, span_Do a0 a1 x919.1 x956.1 = x := ⟨_, rfl⟩
  have hs1050 := letS hx1048 hs1045
  have hx1051 : (0 ≤ x1047.Lo ∧ x1047.Lo ≤ 18446744073709551615) ∧ (0 ≤ x1047.Hi ∧ x1047.Hi ≤ 18446744073709551615) := by rw [← hx1048]; exact span_Do_ok a0 a1 x919.1 x956.1 (by omega) ⟨(by omega), (by omega)⟩ ⟨(by omega), (by omega)⟩ 
  refine WR.call (dst := some 118) (by kernel_rfl) (retE (g := fun r : TSpan => (.agg #[.int .u64 r.Lo, .int .u64 r.Hi] : Value)) hx1048 (span_Do_any a0 a1 x919.1 x956.1 w1021  (by omega) ⟨(by omega), (by omega)⟩ ⟨(by omega), (by omega)⟩ )) ?_
  rintro _ w1052 hc1053 rfl
  have hz1055 := hc1053.size
  have hC1054 := hC1023.pure hc1053
  have hb1056 := hb1025.pure hc1053
  have hb1057 := hb1026.pure hc1053
  have hb1058 := hb1027.pure hc1053
  have hb1059 := hb1028.pure hc1053
  have hb1060 := hb1029.pure hc1053
  refine WR.batch 1 [(8, pt g24 0), (119, .agg #[.int .u8 1, .int .u64 x1047.Lo, .int .u64 x1047.Hi])] (by kernel_rfl) ?_
  refine WR.store (t := 56) (o := 0) (v := .agg #[.int .u8 1, .int .u64 x1047.Lo, .int .u64 x1047.Hi]) hb1058 (by kernel_rfl) #[.int .u8 1, .int .u64 x1047.Lo, .int .u64 x1047.Hi] (by kernel_rfl) ?_
  intro w1061 hb1062 hc1063
  have hz1065 := hc1063.size
  have hC1064 := hC1054.step1 hc1063 (by omega)
  have hb1066 := hb1056.chg1 hc1063 (by omega)
  have hb1067 := hb1057.chg1 hc1063 (by omega)
  have hb1068 := hb1059.chg1 hc1063 (by omega)
  have hb1069 := hb1060.chg1 hc1063 (by omega)
  refine WR.batch 1 [(8, pt g24 0), (9, .int .i64 0)] (by kernel_rfl) ?_
  refine WR.fin (by kernel_rfl) ?_
  refine go hK1046 ?_
  refine CW.ret ?_
  exact retC [.agg #[.int .u8 1, .int .u64 x1047.Lo, .int .u64 x1047.Hi], .int .i64 0] (.tuple #[.agg #[.int .u8 1, .int .u64 x1047.Lo, .int .u64 x1047.Hi], .int .i64 0]) rfl ⟨resCell hb1062 rfl (by kernel_rfl), rfl, trivial⟩ (⟨hC1064, (congrArg (fun r : (TKnown × Int) => (.tuple #[.agg #[.int .u8 r.1.Kind, .int .u64 r.1.In.Lo, .int .u64 r.1.In.Hi], .int .i64 r.2] : Value)) hs1050).symm⟩)
 have hs1070 := ifF ht1044 hs1042
 replace ht1044 : (x919.2 = false) ∨ (x956.2 = false) := (orMap (bAndF ht1044) (fun h => h) (fun h => h))
 refine CW.seq fun K1071 hK1071 => ?_
 refine CW.seq fun K1072 hK1072 => ?_
 refine CW.region ?_
 refine WR.batch 2 [(0, .int .u8 a0), (6, pt g2 0), (8, pt g24 0), (12, pt g969 0), (14, .bool ((((a0 == (1 : Int)) || (a0 == (2 : Int))) && (!a1)) && x956.2)), (122, .bool ((((a0 == (1 : Int)) || (a0 == (2 : Int))) && (!a1)) && x956.2))] (by kernel_rfl) ?_
 refine WR.mergeW 6 [(0, .int .u8 a0), (6, pt g2 0), (8, pt g24 0), (12, pt g969 0), (14, .bool ((((a0 == (1 : Int)) || (a0 == (2 : Int))) && (!a1)) && x956.2)), (126, .bool (((((a0 == (1 : Int)) || (a0 == (2 : Int))) && (!a1)) && x956.2) && (a2.Kind == (2 : Int))))] (fun w' => Chg [] w1021 w') (fun Q' => ?_) ?_
 ·
  cases hg1073 : ((((a0 == (1 : Int)) || (a0 == (2 : Int))) && (!a1)) && x956.2)
  ·
   replace hg1073 : (((a0 ≠ (1 : Int)) ∧ (a0 ≠ (2 : Int))) ∨ (a1 = true)) ∨ (x956.2 = false) := (orMap (bAndF hg1073) (fun h => (orMap (bAndF h) (fun h => ⟨(bEqF (bOrF h).1), (bEqF (bOrF h).2)⟩) (fun h => (bNotF h)))) (fun h => h))
   intro hM1074
   refine WR.batch 4 [(0, .int .u8 a0), (6, pt g2 0), (8, pt g24 0), (12, pt g969 0), (14, .bool false), (126, .bool false)] (by kernel_rfl) ?_
   exact WR.keep [0, 6, 8, 12, 14, 126] (by kernel_rfl) (hM1074 _ (Chg.refl [] w1021))
  ·
   replace hg1073 : (((a0 = (1 : Int)) ∨ (a0 = (2 : Int))) ∧ (a1 = false)) ∧ (x956.2 = true) := ⟨⟨(orMap (bOrT (bAndT (bAndT hg1073).1).1) (fun h => (bEqT h)) (fun h => (bEqT h))), (bNotT (bAndT (bAndT hg1073).1).2)⟩, (bAndT hg1073).2⟩
   intro hM1074
   refine WR.batch 1 [(0, .int .u8 a0), (6, pt g2 0), (8, pt g24 0), (12, pt g969 0), (14, .bool true), (122, .bool true), (123, pt g2 0)] (by kernel_rfl) ?_
   refine WR.load (dst := some 124) (t := 54) (o := 0) hb1025 (by kernel_rfl) (.int .u8 a2.Kind) (by kernel_rfl) ?_
   refine WR.batch 2 [(0, .int .u8 a0), (6, pt g2 0), (8, pt g24 0), (12, pt g969 0), (14, .bool true), (126, .bool (a2.Kind == (2 : Int)))] (by kernel_rfl) ?_
   exact WR.keep [0, 6, 8, 12, 14, 126] (by kernel_rfl) (hM1074 _ (Chg.refl [] w1021))
 intro w1075 hc1076
 have hz1078 := hc1076.size
 have hC1077 := hC1023.pure hc1076
 have hb1079 := hb1025.pure hc1076
 have hb1080 := hb1026.pure hc1076
 have hb1081 := hb1027.pure hc1076
 have hb1082 := hb1028.pure hc1076
 have hb1083 := hb1029.pure hc1076
 refine WR.batch 1 [(0, .int .u8 a0), (6, pt g2 0), (8, pt g24 0), (12, pt g969 0), (14, .bool ((((a0 == (1 : Int)) || (a0 == (2 : Int))) && (!a1)) && x956.2)), (120, .bool (((((a0 == (1 : Int)) || (a0 == (2 : Int))) && (!a1)) && x956.2) && (a2.Kind == (2 : Int))))] (by kernel_rfl) ?_
 refine WR.fin (by kernel_rfl) ?_
 refine go hK1072 ?_
 refine CW.cond ((((((a0 == (1 : Int)) || (a0 == (2 : Int))) && (!a1)) && x956.2) && (a2.Kind == (2 : Int)))) (by kernel_rfl) (fun ht1084 => ?_) (fun ht1084 => ?_)
 ·
  have hs1085 := ifT ht1084 hs1070
  refine CW.keep [0, 6, 8, 12, 120] (F' := [(0, .int .u8 a0), (6, pt g2 0), (8, pt g24 0), (12, pt g969 0), (120, .bool (((((a0 == (1 : Int)) || (a0 == (2 : Int))) && (!a1)) && x956.2) && (a2.Kind == (2 : Int))))]) (by kernel_rfl) ?_
  refine CW.eqF (F' := [(0, .int .u8 a0), (6, pt g2 0), (8, pt g24 0), (12, pt g969 0), (120, .bool true)]) (by rw [ht1084]) ?_
  have hk1086 := ht1084
  replace ht1084 : ((((a0 = (1 : Int)) ∨ (a0 = (2 : Int))) ∧ (a1 = false)) ∧ (x956.2 = true)) ∧ (a2.Kind = (2 : Int)) := ⟨⟨⟨(orMap (bOrT (bAndT (bAndT (bAndT ht1084).1).1).1) (fun h => (bEqT h)) (fun h => (bEqT h))), (bNotT (bAndT (bAndT (bAndT ht1084).1).1).2)⟩, (bAndT (bAndT ht1084).1).2⟩, (bEqT (bAndT ht1084).2)⟩
  refine CW.skip ?_
  refine go hK1071 ?_
  refine CW.yes (by kernel_rfl) ?_
  refine CW.seq fun K1087 hK1087 => ?_
  refine CW.keep [0, 6, 8, 12] (F' := [(0, .int .u8 a0), (6, pt g2 0), (8, pt g24 0), (12, pt g969 0)]) (by kernel_rfl) ?_
  refine CW.regionG 7 [some (pt g2 0), some (.int .u8 a2.Kind), some (.int .u8 a0), some (pt g2 1), some (.agg #[.int .u64 a2.In.Lo, .int .u64 a2.In.Hi]), some (.agg #[.int .u64 x956.1.Lo, .int .u64 x956.1.Hi]), some (.agg #[.int .u64 (span_Do a0 false a2.In x956.1).Lo, .int .u64 (span_Do a0 false a2.In x956.1).Hi])] (fun u => [(140, pt g2 0), (141, .int .u8 a2.Kind), (142, .int .u8 a0), (143, pt g2 1), (144, .agg #[.int .u64 a2.In.Lo, .int .u64 a2.In.Hi]), (145, .agg #[.int .u64 x956.1.Lo, .int .u64 x956.1.Hi]), (146, .agg #[.int .u64 (span_Do a0 false a2.In x956.1).Lo, .int .u64 (span_Do a0 false a2.In x956.1).Hi]), (0, .int .u8 a0), (6, pt g2 0), (8, pt g24 0), (12, pt g969 0)]) (fun _ => by kernel_rfl) (by kernel_rfl) [] (fun _ _ => True) (fun _ => trivial) (fun _ _ _ _ _ _ _ => trivial) [] [] (by kernel_rfl) (fun w' => Chg [] w1075 w') (fun _ _ _ => True) (fun j x w hj h => absurd hj (by simp)) (by kernel_rfl) (by kernel_rfl) (by kernel_rfl) (by kernel_rfl) (Chg.drew w1075) (fun _ _ _ h h' => h.step h' (fun t ht => .inl (cL_sub t ht))) (fun _ _ _ _ _ _ _ _ => trivial) (obsG_batch 1 0 6 (fun _ _ => by kernel_rfl) (by kernel_rfl) ⟨?_, (obsG_batch 2 2 3 (fun _ _ => by kernel_rfl) (by kernel_rfl) ⟨?_, ⟨?_, ⟨?_, trivial⟩⟩⟩)⟩) ?_
  ·
   intro u1088 w1089 hW1090 _ hp1091 hal1092
   have hz1095 := hW1090.size
   have hC1094 := hC1077.pure hW1090
   have hb1096 := hb1079.pure hW1090
   have hb1097 := hb1080.pure hW1090
   have hb1098 := hb1081.pure hW1090
   have hb1099 := hb1082.pure hW1090
   have hb1100 := hb1083.pure hW1090
   refine WR.load (dst := some 141) (t := 54) (o := 0) hb1096 (by kernel_rfl) (.int .u8 a2.Kind) (by kernel_rfl) ?_
   refine WR.fin (by kernel_rfl) ?_
   exact fun _ ha => ⟨Chg.refl _ _, _, ha, ⟨⟨fun h => absurd h (by decide), alNone (by decide)⟩, rfl⟩⟩
  ·
   intro u1101 w1102 hW1103 _ hp1104 hal1105
   have hz1108 := hW1103.size
   have hC1107 := hC1077.pure hW1103
   have hb1109 := hb1079.pure hW1103
   have hb1110 := hb1080.pure hW1103
   have hb1111 := hb1081.pure hW1103
   have hb1112 := hb1082.pure hW1103
   have hb1113 := hb1083.pure hW1103
   refine WR.load (dst := some 144) (t := 25) (o := 1) hb1109 (by kernel_rfl) (.agg #[.int .u64 a2.In.Lo, .int .u64 a2.In.Hi]) (by kernel_rfl) ?_
   refine WR.fin (by kernel_rfl) ?_
   exact fun _ ha => ⟨Chg.refl _ _, _, ha, ⟨⟨fun h => absurd h (by decide), alNone (by decide)⟩, rfl⟩⟩
  ·
   intro u1114 w1115 hW1116 _ hp1117 hal1118
   have hz1121 := hW1116.size
   have hC1120 := hC1077.pure hW1116
   have hb1122 := hb1079.pure hW1116
   have hb1123 := hb1080.pure hW1116
   have hb1124 := hb1081.pure hW1116
   have hb1125 := hb1082.pure hW1116
   have hb1126 := hb1083.pure hW1116
   refine WR.load (dst := some 145) (t := 25) (o := 0) hb1126 (by kernel_rfl) (.agg #[.int .u64 x956.1.Lo, .int .u64 x956.1.Hi]) (by kernel_rfl) ?_
   refine WR.fin (by kernel_rfl) ?_
   exact fun _ ha => ⟨Chg.refl _ _, _, ha, ⟨⟨fun h => absurd h (by decide), alNone (by decide)⟩, rfl⟩⟩
  ·
   intro u1127 w1128 hW1129 _ hp1130 hal1131
   have hz1134 := hW1129.size
   have hC1133 := hC1077.pure hW1129
   have hb1135 := hb1079.pure hW1129
   have hb1136 := hb1080.pure hW1129
   have hb1137 := hb1081.pure hW1129
   have hb1138 := hb1082.pure hW1129
   have hb1139 := hb1083.pure hW1129
   have hx1140 : (0 ≤ (span_Do a0 false a2.In x956.1).Lo ∧ (span_Do a0 false a2.In x956.1).Lo ≤ 18446744073709551615) ∧ (0 ≤ (span_Do a0 false a2.In x956.1).Hi ∧ (span_Do a0 false a2.In x956.1).Hi ≤ 18446744073709551615) := span_Do_ok a0 false a2.In x956.1 (by omega) ⟨(by omega), (by omega)⟩ ⟨(by omega), (by omega)⟩ 
   have hx1141 : (0 ≤ (span_Do a0 false a2.In x956.1).Lo ∧ (span_Do a0 false a2.In x956.1).Lo ≤ 18446744073709551615) ∧ (0 ≤ (span_Do a0 false a2.In x956.1).Hi ∧ (span_Do a0 false a2.In x956.1).Hi ≤ 18446744073709551615) := span_Do_ok a0 false a2.In x956.1 (by omega) ⟨(by omega), (by omega)⟩ ⟨(by omega), (by omega)⟩ 
   refine WR.call (dst := some 146) (by kernel_rfl) (span_Do_any a0 false a2.In x956.1 w1128  (by omega) ⟨(by omega), (by omega)⟩ ⟨(by omega), (by omega)⟩ ) ?_
   rintro _ w1142 hc1143 rfl
   have hz1145 := hc1143.size
   have hC1144 := hC1133.pure hc1143
   have hb1146 := hb1135.pure hc1143
   have hb1147 := hb1136.pure hc1143
   have hb1148 := hb1137.pure hc1143
   have hb1149 := hb1138.pure hc1143
   have hb1150 := hb1139.pure hc1143
   refine WR.fin (by kernel_rfl) ?_
   exact fun _ ha => ⟨hc1143, _, ha, ⟨⟨fun h => absurd h (by decide), alNone (by decide)⟩, rfl⟩⟩
  intro u1151 w1152 hW1153 _ _ _
  have hz1158 := hW1153.size
  have hC1157 := hC1077.pure hW1153
  have hb1159 := hb1079.pure hW1153
  have hb1160 := hb1080.pure hW1153
  have hb1161 := hb1081.pure hW1153
  have hb1162 := hb1082.pure hW1153
  have hb1163 := hb1083.pure hW1153
  have hx1164 : (0 ≤ (span_Do a0 false a2.In x956.1).Lo ∧ (span_Do a0 false a2.In x956.1).Lo ≤ 18446744073709551615) ∧ (0 ≤ (span_Do a0 false a2.In x956.1).Hi ∧ (span_Do a0 false a2.In x956.1).Hi ≤ 18446744073709551615) := span_Do_ok a0 false a2.In x956.1 (by omega) ⟨(by omega), (by omega)⟩ ⟨(by omega), (by omega)⟩ 
  refine WR.keep [8, 141, 146] (F' := [(8, pt g24 0), (141, .int .u8 a2.Kind), (146, .agg #[.int .u64 (span_Do a0 false a2.In x956.1).Lo, .int .u64 (span_Do a0 false a2.In x956.1).Hi])]) (by kernel_rfl) ?_
  refine WR.batch 1 [(8, pt g24 0), (147, .agg #[.int .u8 a2.Kind, .int .u64 (span_Do a0 false a2.In x956.1).Lo, .int .u64 (span_Do a0 false a2.In x956.1).Hi])] (by kernel_rfl) ?_
  refine WR.store (t := 56) (o := 0) (v := .agg #[.int .u8 a2.Kind, .int .u64 (span_Do a0 false a2.In x956.1).Lo, .int .u64 (span_Do a0 false a2.In x956.1).Hi]) hb1161 (by kernel_rfl) #[.int .u8 a2.Kind, .int .u64 (span_Do a0 false a2.In x956.1).Lo, .int .u64 (span_Do a0 false a2.In x956.1).Hi] (by kernel_rfl) ?_
  intro w1165 hb1166 hc1167
  have hz1169 := hc1167.size
  have hC1168 := hC1157.step1 hc1167 (by omega)
  have hb1170 := hb1159.chg1 hc1167 (by omega)
  have hb1171 := hb1160.chg1 hc1167 (by omega)
  have hb1172 := hb1162.chg1 hc1167 (by omega)
  have hb1173 := hb1163.chg1 hc1167 (by omega)
  refine WR.batch 1 [(8, pt g24 0), (9, .int .i64 0)] (by kernel_rfl) ?_
  refine WR.fin (by kernel_rfl) ?_
  refine go hK1087 ?_
  refine CW.ret ?_
  exact retC [.agg #[.int .u8 a2.Kind, .int .u64 (span_Do a0 false a2.In x956.1).Lo, .int .u64 (span_Do a0 false a2.In x956.1).Hi], .int .i64 0] (.tuple #[.agg #[.int .u8 a2.Kind, .int .u64 (span_Do a0 false a2.In x956.1).Lo, .int .u64 (span_Do a0 false a2.In x956.1).Hi], .int .i64 0]) rfl ⟨resCell hb1166 rfl (by kernel_rfl), rfl, trivial⟩ (⟨hC1168, (congrArg (fun r : (TKnown × Int) => (.tuple #[.agg #[.int .u8 r.1.Kind, .int .u64 r.1.In.Lo, .int .u64 r.1.In.Hi], .int .i64 r.2] : Value)) hs1085).symm⟩)
 have hs1174 := ifF ht1084 hs1070
 replace ht1084 : ((((a0 ≠ (1 : Int)) ∧ (a0 ≠ (2 : Int))) ∨ (a1 = true)) ∨ (x956.2 = false)) ∨ (a2.Kind ≠ (2 : Int)) := (orMap (bAndF ht1084) (fun h => (orMap (bAndF h) (fun h => (orMap (bAndF h) (fun h => ⟨(bEqF (bOrF h).1), (bEqF (bOrF h).2)⟩) (fun h => (bNotF h)))) (fun h => h))) (fun h => (bEqF h)))
 refine CW.region ?_
 refine WR.batch 2 [(0, .int .u8 a0), (6, pt g2 0), (8, pt g24 0), (12, pt g969 0), (128, .bool ((((a0 == (1 : Int)) || (a0 == (2 : Int))) && (!a1)) && x956.2))] (by kernel_rfl) ?_
 refine WR.mergeW 6 [(0, .int .u8 a0), (6, pt g2 0), (8, pt g24 0), (12, pt g969 0), (132, .bool (((((a0 == (1 : Int)) || (a0 == (2 : Int))) && (!a1)) && x956.2) && (a2.Kind == (3 : Int))))] (fun w' => Chg [] w1075 w') (fun Q' => ?_) ?_
 ·
  cases hg1175 : ((((a0 == (1 : Int)) || (a0 == (2 : Int))) && (!a1)) && x956.2)
  ·
   replace hg1175 : (((a0 ≠ (1 : Int)) ∧ (a0 ≠ (2 : Int))) ∨ (a1 = true)) ∨ (x956.2 = false) := (orMap (bAndF hg1175) (fun h => (orMap (bAndF h) (fun h => ⟨(bEqF (bOrF h).1), (bEqF (bOrF h).2)⟩) (fun h => (bNotF h)))) (fun h => h))
   intro hM1176
   refine WR.batch 4 [(0, .int .u8 a0), (6, pt g2 0), (8, pt g24 0), (12, pt g969 0), (132, .bool false)] (by kernel_rfl) ?_
   exact WR.keep [0, 6, 8, 12, 132] (by kernel_rfl) (hM1176 _ (Chg.refl [] w1075))
  ·
   replace hg1175 : (((a0 = (1 : Int)) ∨ (a0 = (2 : Int))) ∧ (a1 = false)) ∧ (x956.2 = true) := ⟨⟨(orMap (bOrT (bAndT (bAndT hg1175).1).1) (fun h => (bEqT h)) (fun h => (bEqT h))), (bNotT (bAndT (bAndT hg1175).1).2)⟩, (bAndT hg1175).2⟩
   intro hM1176
   refine WR.batch 1 [(0, .int .u8 a0), (6, pt g2 0), (8, pt g24 0), (12, pt g969 0), (128, .bool true), (129, pt g2 0)] (by kernel_rfl) ?_
   refine WR.load (dst := some 130) (t := 54) (o := 0) hb1079 (by kernel_rfl) (.int .u8 a2.Kind) (by kernel_rfl) ?_
   refine WR.batch 2 [(0, .int .u8 a0), (6, pt g2 0), (8, pt g24 0), (12, pt g969 0), (132, .bool (a2.Kind == (3 : Int)))] (by kernel_rfl) ?_
   exact WR.keep [0, 6, 8, 12, 132] (by kernel_rfl) (hM1176 _ (Chg.refl [] w1075))
 intro w1177 hc1178
 have hz1180 := hc1178.size
 have hC1179 := hC1077.pure hc1178
 have hb1181 := hb1079.pure hc1178
 have hb1182 := hb1080.pure hc1178
 have hb1183 := hb1081.pure hc1178
 have hb1184 := hb1082.pure hc1178
 have hb1185 := hb1083.pure hc1178
 have hx1186 : (0 ≤ (span_Do a0 false a2.In x956.1).Lo ∧ (span_Do a0 false a2.In x956.1).Lo ≤ 18446744073709551615) ∧ (0 ≤ (span_Do a0 false a2.In x956.1).Hi ∧ (span_Do a0 false a2.In x956.1).Hi ≤ 18446744073709551615) := span_Do_ok a0 false a2.In x956.1 (by omega) ⟨(by omega), (by omega)⟩ ⟨(by omega), (by omega)⟩ 
 refine WR.batch 1 [(0, .int .u8 a0), (6, pt g2 0), (8, pt g24 0), (12, pt g969 0), (133, .bool (((((a0 == (1 : Int)) || (a0 == (2 : Int))) && (!a1)) && x956.2) && (a2.Kind == (3 : Int))))] (by kernel_rfl) ?_
 refine WR.mergeW 13 [(0, .int .u8 a0), (6, pt g2 0), (8, pt g24 0), (12, pt g969 0), (139, .bool ((((((a0 == (1 : Int)) || (a0 == (2 : Int))) && (!a1)) && x956.2) && (a2.Kind == (3 : Int))) && (x956.1.Lo == x956.1.Hi)))] (fun w' => Chg [] w1177 w') (fun Q' => ?_) ?_
 ·
  cases hg1187 : (((((a0 == (1 : Int)) || (a0 == (2 : Int))) && (!a1)) && x956.2) && (a2.Kind == (3 : Int)))
  ·
   replace hg1187 : ((((a0 ≠ (1 : Int)) ∧ (a0 ≠ (2 : Int))) ∨ (a1 = true)) ∨ (x956.2 = false)) ∨ (a2.Kind ≠ (3 : Int)) := (orMap (bAndF hg1187) (fun h => (orMap (bAndF h) (fun h => (orMap (bAndF h) (fun h => ⟨(bEqF (bOrF h).1), (bEqF (bOrF h).2)⟩) (fun h => (bNotF h)))) (fun h => h))) (fun h => (bEqF h)))
   intro hM1188
   refine WR.batch 6 [(0, .int .u8 a0), (6, pt g2 0), (8, pt g24 0), (12, pt g969 0), (139, .bool false)] (by kernel_rfl) ?_
   exact WR.keep [0, 6, 8, 12, 139] (by kernel_rfl) (hM1188 _ (Chg.refl [] w1177))
  ·
   replace hg1187 : ((((a0 = (1 : Int)) ∨ (a0 = (2 : Int))) ∧ (a1 = false)) ∧ (x956.2 = true)) ∧ (a2.Kind = (3 : Int)) := ⟨⟨⟨(orMap (bOrT (bAndT (bAndT (bAndT hg1187).1).1).1) (fun h => (bEqT h)) (fun h => (bEqT h))), (bNotT (bAndT (bAndT (bAndT hg1187).1).1).2)⟩, (bAndT (bAndT hg1187).1).2⟩, (bEqT (bAndT hg1187).2)⟩
   intro hM1188
   refine WR.batch 1 [(0, .int .u8 a0), (6, pt g2 0), (8, pt g24 0), (12, pt g969 0), (133, .bool true), (134, pt g969 0)] (by kernel_rfl) ?_
   refine WR.load (dst := some 135) (t := 23) (o := 0) hb1185 (by kernel_rfl) (.int .u64 x956.1.Lo) (by kernel_rfl) ?_
   refine WR.batch 1 [(0, .int .u8 a0), (6, pt g2 0), (8, pt g24 0), (12, pt g969 0), (133, .bool true), (135, .int .u64 x956.1.Lo), (136, pt g969 1)] (by kernel_rfl) ?_
   refine WR.load (dst := some 137) (t := 23) (o := 1) hb1185 (by kernel_rfl) (.int .u64 x956.1.Hi) (by kernel_rfl) ?_
   refine WR.batch 2 [(0, .int .u8 a0), (6, pt g2 0), (8, pt g24 0), (12, pt g969 0), (139, .bool (x956.1.Lo == x956.1.Hi))] (by kernel_rfl) ?_
   exact WR.keep [0, 6, 8, 12, 139] (by kernel_rfl) (hM1188 _ (Chg.refl [] w1177))
 intro w1189 hc1190
 have hz1192 := hc1190.size
 have hC1191 := hC1179.pure hc1190
 have hb1193 := hb1181.pure hc1190
 have hb1194 := hb1182.pure hc1190
 have hb1195 := hb1183.pure hc1190
 have hb1196 := hb1184.pure hc1190
 have hb1197 := hb1185.pure hc1190
 have hx1198 : (0 ≤ (span_Do a0 false a2.In x956.1).Lo ∧ (span_Do a0 false a2.In x956.1).Lo ≤ 18446744073709551615) ∧ (0 ≤ (span_Do a0 false a2.In x956.1).Hi ∧ (span_Do a0 false a2.In x956.1).Hi ≤ 18446744073709551615) := span_Do_ok a0 false a2.In x956.1 (by omega) ⟨(by omega), (by omega)⟩ ⟨(by omega), (by omega)⟩ 
 refine WR.batch 1 [(0, .int .u8 a0), (6, pt g2 0), (8, pt g24 0), (12, pt g969 0), (120, .bool ((((((a0 == (1 : Int)) || (a0 == (2 : Int))) && (!a1)) && x956.2) && (a2.Kind == (3 : Int))) && (x956.1.Lo == x956.1.Hi)))] (by kernel_rfl) ?_
 refine WR.fin (by kernel_rfl) ?_
 refine go hK1071 ?_
 refine CW.cond (((((((a0 == (1 : Int)) || (a0 == (2 : Int))) && (!a1)) && x956.2) && (a2.Kind == (3 : Int))) && (x956.1.Lo == x956.1.Hi))) (by kernel_rfl) (fun ht1199 => ?_) (fun ht1199 => ?_)
 ·
  have hs1200 := ifT ht1199 hs1174
  replace ht1199 : (((((a0 = (1 : Int)) ∨ (a0 = (2 : Int))) ∧ (a1 = false)) ∧ (x956.2 = true)) ∧ (a2.Kind = (3 : Int))) ∧ (x956.1.Lo = x956.1.Hi) := ⟨⟨⟨⟨(orMap (bOrT (bAndT (bAndT (bAndT (bAndT ht1199).1).1).1).1) (fun h => (bEqT h)) (fun h => (bEqT h))), (bNotT (bAndT (bAndT (bAndT (bAndT ht1199).1).1).1).2)⟩, (bAndT (bAndT (bAndT ht1199).1).1).2⟩, (bEqT (bAndT (bAndT ht1199).1).2)⟩, (bEqT (bAndT ht1199).2)⟩
  refine CW.seq fun K1201 hK1201 => ?_
  refine CW.keep [0, 6, 8, 12] (F' := [(0, .int .u8 a0), (6, pt g2 0), (8, pt g24 0), (12, pt g969 0)]) (by kernel_rfl) ?_
  refine CW.regionG 7 [some (pt g2 0), some (.int .u8 a2.Kind), some (.int .u8 a0), some (pt g2 1), some (.agg #[.int .u64 a2.In.Lo, .int .u64 a2.In.Hi]), some (.agg #[.int .u64 x956.1.Lo, .int .u64 x956.1.Hi]), some (.agg #[.int .u64 (span_Do a0 false a2.In x956.1).Lo, .int .u64 (span_Do a0 false a2.In x956.1).Hi])] (fun u => [(140, pt g2 0), (141, .int .u8 a2.Kind), (142, .int .u8 a0), (143, pt g2 1), (144, .agg #[.int .u64 a2.In.Lo, .int .u64 a2.In.Hi]), (145, .agg #[.int .u64 x956.1.Lo, .int .u64 x956.1.Hi]), (146, .agg #[.int .u64 (span_Do a0 false a2.In x956.1).Lo, .int .u64 (span_Do a0 false a2.In x956.1).Hi]), (0, .int .u8 a0), (6, pt g2 0), (8, pt g24 0), (12, pt g969 0)]) (fun _ => by kernel_rfl) (by kernel_rfl) [] (fun _ _ => True) (fun _ => trivial) (fun _ _ _ _ _ _ _ => trivial) [] [] (by kernel_rfl) (fun w' => Chg [] w1189 w') (fun _ _ _ => True) (fun j x w hj h => absurd hj (by simp)) (by kernel_rfl) (by kernel_rfl) (by kernel_rfl) (by kernel_rfl) (Chg.drew w1189) (fun _ _ _ h h' => h.step h' (fun t ht => .inl (cL_sub t ht))) (fun _ _ _ _ _ _ _ _ => trivial) (obsG_batch 1 0 6 (fun _ _ => by kernel_rfl) (by kernel_rfl) ⟨?_, (obsG_batch 2 2 3 (fun _ _ => by kernel_rfl) (by kernel_rfl) ⟨?_, ⟨?_, ⟨?_, trivial⟩⟩⟩)⟩) ?_
  ·
   intro u1202 w1203 hW1204 _ hp1205 hal1206
   have hz1209 := hW1204.size
   have hC1208 := hC1191.pure hW1204
   have hb1210 := hb1193.pure hW1204
   have hb1211 := hb1194.pure hW1204
   have hb1212 := hb1195.pure hW1204
   have hb1213 := hb1196.pure hW1204
   have hb1214 := hb1197.pure hW1204
   refine WR.load (dst := some 141) (t := 54) (o := 0) hb1210 (by kernel_rfl) (.int .u8 a2.Kind) (by kernel_rfl) ?_
   refine WR.fin (by kernel_rfl) ?_
   exact fun _ ha => ⟨Chg.refl _ _, _, ha, ⟨⟨fun h => absurd h (by decide), alNone (by decide)⟩, rfl⟩⟩
  ·
   intro u1215 w1216 hW1217 _ hp1218 hal1219
   have hz1222 := hW1217.size
   have hC1221 := hC1191.pure hW1217
   have hb1223 := hb1193.pure hW1217
   have hb1224 := hb1194.pure hW1217
   have hb1225 := hb1195.pure hW1217
   have hb1226 := hb1196.pure hW1217
   have hb1227 := hb1197.pure hW1217
   refine WR.load (dst := some 144) (t := 25) (o := 1) hb1223 (by kernel_rfl) (.agg #[.int .u64 a2.In.Lo, .int .u64 a2.In.Hi]) (by kernel_rfl) ?_
   refine WR.fin (by kernel_rfl) ?_
   exact fun _ ha => ⟨Chg.refl _ _, _, ha, ⟨⟨fun h => absurd h (by decide), alNone (by decide)⟩, rfl⟩⟩
  ·
   intro u1228 w1229 hW1230 _ hp1231 hal1232
   have hz1235 := hW1230.size
   have hC1234 := hC1191.pure hW1230
   have hb1236 := hb1193.pure hW1230
   have hb1237 := hb1194.pure hW1230
   have hb1238 := hb1195.pure hW1230
   have hb1239 := hb1196.pure hW1230
   have hb1240 := hb1197.pure hW1230
   refine WR.load (dst := some 145) (t := 25) (o := 0) hb1240 (by kernel_rfl) (.agg #[.int .u64 x956.1.Lo, .int .u64 x956.1.Hi]) (by kernel_rfl) ?_
   refine WR.fin (by kernel_rfl) ?_
   exact fun _ ha => ⟨Chg.refl _ _, _, ha, ⟨⟨fun h => absurd h (by decide), alNone (by decide)⟩, rfl⟩⟩
  ·
   intro u1241 w1242 hW1243 _ hp1244 hal1245
   have hz1248 := hW1243.size
   have hC1247 := hC1191.pure hW1243
   have hb1249 := hb1193.pure hW1243
   have hb1250 := hb1194.pure hW1243
   have hb1251 := hb1195.pure hW1243
   have hb1252 := hb1196.pure hW1243
   have hb1253 := hb1197.pure hW1243
   have hx1254 : (0 ≤ (span_Do a0 false a2.In x956.1).Lo ∧ (span_Do a0 false a2.In x956.1).Lo ≤ 18446744073709551615) ∧ (0 ≤ (span_Do a0 false a2.In x956.1).Hi ∧ (span_Do a0 false a2.In x956.1).Hi ≤ 18446744073709551615) := span_Do_ok a0 false a2.In x956.1 (by omega) ⟨(by omega), (by omega)⟩ ⟨(by omega), (by omega)⟩ 
   have hx1255 : (0 ≤ (span_Do a0 false a2.In x956.1).Lo ∧ (span_Do a0 false a2.In x956.1).Lo ≤ 18446744073709551615) ∧ (0 ≤ (span_Do a0 false a2.In x956.1).Hi ∧ (span_Do a0 false a2.In x956.1).Hi ≤ 18446744073709551615) := span_Do_ok a0 false a2.In x956.1 (by omega) ⟨(by omega), (by omega)⟩ ⟨(by omega), (by omega)⟩ 
   refine WR.call (dst := some 146) (by kernel_rfl) (span_Do_any a0 false a2.In x956.1 w1242  (by omega) ⟨(by omega), (by omega)⟩ ⟨(by omega), (by omega)⟩ ) ?_
   rintro _ w1256 hc1257 rfl
   have hz1259 := hc1257.size
   have hC1258 := hC1247.pure hc1257
   have hb1260 := hb1249.pure hc1257
   have hb1261 := hb1250.pure hc1257
   have hb1262 := hb1251.pure hc1257
   have hb1263 := hb1252.pure hc1257
   have hb1264 := hb1253.pure hc1257
   refine WR.fin (by kernel_rfl) ?_
   exact fun _ ha => ⟨hc1257, _, ha, ⟨⟨fun h => absurd h (by decide), alNone (by decide)⟩, rfl⟩⟩
  intro u1265 w1266 hW1267 _ _ _
  have hz1272 := hW1267.size
  have hC1271 := hC1191.pure hW1267
  have hb1273 := hb1193.pure hW1267
  have hb1274 := hb1194.pure hW1267
  have hb1275 := hb1195.pure hW1267
  have hb1276 := hb1196.pure hW1267
  have hb1277 := hb1197.pure hW1267
  have hx1278 : (0 ≤ (span_Do a0 false a2.In x956.1).Lo ∧ (span_Do a0 false a2.In x956.1).Lo ≤ 18446744073709551615) ∧ (0 ≤ (span_Do a0 false a2.In x956.1).Hi ∧ (span_Do a0 false a2.In x956.1).Hi ≤ 18446744073709551615) := span_Do_ok a0 false a2.In x956.1 (by omega) ⟨(by omega), (by omega)⟩ ⟨(by omega), (by omega)⟩ 
  refine WR.keep [8, 141, 146] (F' := [(8, pt g24 0), (141, .int .u8 a2.Kind), (146, .agg #[.int .u64 (span_Do a0 false a2.In x956.1).Lo, .int .u64 (span_Do a0 false a2.In x956.1).Hi])]) (by kernel_rfl) ?_
  refine WR.batch 1 [(8, pt g24 0), (147, .agg #[.int .u8 a2.Kind, .int .u64 (span_Do a0 false a2.In x956.1).Lo, .int .u64 (span_Do a0 false a2.In x956.1).Hi])] (by kernel_rfl) ?_
  refine WR.store (t := 56) (o := 0) (v := .agg #[.int .u8 a2.Kind, .int .u64 (span_Do a0 false a2.In x956.1).Lo, .int .u64 (span_Do a0 false a2.In x956.1).Hi]) hb1275 (by kernel_rfl) #[.int .u8 a2.Kind, .int .u64 (span_Do a0 false a2.In x956.1).Lo, .int .u64 (span_Do a0 false a2.In x956.1).Hi] (by kernel_rfl) ?_
  intro w1279 hb1280 hc1281
  have hz1283 := hc1281.size
  have hC1282 := hC1271.step1 hc1281 (by omega)
  have hb1284 := hb1273.chg1 hc1281 (by omega)
  have hb1285 := hb1274.chg1 hc1281 (by omega)
  have hb1286 := hb1276.chg1 hc1281 (by omega)
  have hb1287 := hb1277.chg1 hc1281 (by omega)
  refine WR.batch 1 [(8, pt g24 0), (9, .int .i64 0)] (by kernel_rfl) ?_
  refine WR.fin (by kernel_rfl) ?_
  refine go hK1201 ?_
  refine CW.ret ?_
  exact retC [.agg #[.int .u8 a2.Kind, .int .u64 (span_Do a0 false a2.In x956.1).Lo, .int .u64 (span_Do a0 false a2.In x956.1).Hi], .int .i64 0] (.tuple #[.agg #[.int .u8 a2.Kind, .int .u64 (span_Do a0 false a2.In x956.1).Lo, .int .u64 (span_Do a0 false a2.In x956.1).Hi], .int .i64 0]) rfl ⟨resCell hb1280 rfl (by kernel_rfl), rfl, trivial⟩ (⟨hC1282, (congrArg (fun r : (TKnown × Int) => (.tuple #[.agg #[.int .u8 r.1.Kind, .int .u64 r.1.In.Lo, .int .u64 r.1.In.Hi], .int .i64 r.2] : Value)) hs1200).symm⟩)
 have hs1288 := ifF ht1199 hs1174
 replace ht1199 : (((((a0 ≠ (1 : Int)) ∧ (a0 ≠ (2 : Int))) ∨ (a1 = true)) ∨ (x956.2 = false)) ∨ (a2.Kind ≠ (3 : Int))) ∨ (x956.1.Lo ≠ x956.1.Hi) := (orMap (bAndF ht1199) (fun h => (orMap (bAndF h) (fun h => (orMap (bAndF h) (fun h => (orMap (bAndF h) (fun h => ⟨(bEqF (bOrF h).1), (bEqF (bOrF h).2)⟩) (fun h => (bNotF h)))) (fun h => h))) (fun h => (bEqF h)))) (fun h => (bEqF h)))
 refine CW.skip ?_
 refine go hK997 ?_
 refine CW.seq fun K1289 hK1289 => ?_
 refine CW.region ?_
 refine WR.batch 1 [(8, pt g24 0), (148, .agg #[.int .u8 0, .int .u64 0, .int .u64 0])] (by kernel_rfl) ?_
 refine WR.store (t := 56) (o := 0) (v := .agg #[.int .u8 0, .int .u64 0, .int .u64 0]) hb1195 (by kernel_rfl) #[.int .u8 0, .int .u64 0, .int .u64 0] (by kernel_rfl) ?_
 intro w1290 hb1291 hc1292
 have hz1294 := hc1292.size
 have hC1293 := hC1191.step1 hc1292 (by omega)
 have hb1295 := hb1193.chg1 hc1292 (by omega)
 have hb1296 := hb1194.chg1 hc1292 (by omega)
 have hb1297 := hb1196.chg1 hc1292 (by omega)
 have hb1298 := hb1197.chg1 hc1292 (by omega)
 refine WR.batch 1 [(8, pt g24 0), (9, .int .i64 114)] (by kernel_rfl) ?_
 refine WR.fin (by kernel_rfl) ?_
 refine go hK1289 ?_
 refine CW.ret ?_
 exact retC [.agg #[.int .u8 0, .int .u64 0, .int .u64 0], .int .i64 114] (.tuple #[.agg #[.int .u8 0, .int .u64 0, .int .u64 0], .int .i64 114]) rfl ⟨resCell hb1291 rfl (by kernel_rfl), rfl, trivial⟩ (⟨hC1293, (congrArg (fun r : (TKnown × Int) => (.tuple #[.agg #[.int .u8 r.1.Kind, .int .u64 r.1.In.Lo, .int .u64 r.1.In.Hi], .int .i64 r.2] : Value)) hs1288).symm⟩)
end Go.V
