import Derived.Test.YtjiagljaipadmaaProg
import Derived.Test.YtjiagljaipadmaaSp
namespace Go.V
open Go.RowKit Go.Proofs
structure TKnown where
  Kind : Int
  In : TSpan
deriving Inhabited, DecidableEq
abbrev TKnown.v (r : TKnown) : Value := .agg #[.int .u8 r.Kind, .int .u64 r.In.Lo, .int .u64 r.In.Hi]

def kind_Right (a0 : TKnown)  : Bool := (if (a0.Kind == (4 : Int)) then ((a0.In.Lo == (0 : Int)) && (a0.In.Hi == (0 : Int))) else (if (a0.Kind == (0 : Int)) then ((a0.In.Lo == (0 : Int)) && (a0.In.Hi == (0 : Int))) else (if (a0.Kind == (1 : Int)) then (letF (span_Right a0.In) fun x37 => x37) else (if (a0.Kind == (2 : Int)) then (letF (span_Right a0.In) fun x50 => x50) else ((a0.Kind == (3 : Int)) && ((a0.In.Lo == (span_Of a0.In.Lo).Lo) && (a0.In.Hi == (span_Of a0.In.Lo).Hi)))))))

set_option maxRecDepth 100000 in
set_option maxHeartbeats 4000000 in
theorem kind_Right_any (a0 : TKnown)   (w : World)  (_h_a0 : IU8 a0.Kind ∧ IU64 a0.In.Lo ∧ IU64 a0.In.Hi)  : Calls Try.prog 40 #[.agg #[.int .u8 a0.Kind, .int .u64 a0.In.Lo, .int .u64 a0.In.Hi]] w (RetV w (.bool (kind_Right a0))) := by
 have hs := kind_Right.eq_1 a0
 refine calls_of_CW Try.func40 rfl (n := 32) Try.ntmps40 (by kernel_rfl) [0] (F := [(0, .agg #[.int .u8 a0.Kind, .int .u64 a0.In.Lo, .int .u64 a0.In.Hi])]) (by kernel_rfl) ?_
 refine CW.seq fun K1 hK1 => ?_
 refine CW.region ?_
 refine WR.box (dst := some 1) (e := 56) (v := .agg #[.int .u8 a0.Kind, .int .u64 a0.In.Lo, .int .u64 a0.In.Hi]) (by kernel_rfl) #[.int .u8 a0.Kind, .int .u64 a0.In.Lo, .int .u64 a0.In.Hi] (by kernel_rfl) ?_
 intro g2 w3 hN4
 have hf6 : w.heap.size ≤ g2 := hN4.fresh
 have hfr8 := hN4.fresh
 have hc7 := hN4.chg
 have hz10 := hc7.size
 have hC9 := (Chg.refl [] w).pure hc7
 have hb5 := hN4.blk
 have hg11 := hb5.lt
 refine WR.batch 1 [(1, pt g2 0)] (by kernel_rfl) ?_
 refine WR.fin (by kernel_rfl) ?_
 refine go hK1 ?_
 refine CW.seq fun K12 hK12 => ?_
 refine CW.seq fun K13 hK13 => ?_
 refine CW.region ?_
 refine WR.batch 1 [(1, pt g2 0), (3, pt g2 0)] (by kernel_rfl) ?_
 refine WR.load (dst := some 4) (t := 54) (o := 0) hb5 (by kernel_rfl) (.int .u8 a0.Kind) (by kernel_rfl) ?_
 refine WR.fin (by kernel_rfl) ?_
 refine go hK13 ?_
 refine CW.block ?_
 refine CW.seq fun K14 hK14 => ?_
 refine CW.block ?_
 refine CW.block ?_
 refine CW.seq fun K15 hK15 => ?_
 refine CW.block ?_
 refine CW.block ?_
 refine CW.seq fun K16 hK16 => ?_
 refine CW.seq fun K17 hK17 => ?_
 refine CW.seq fun K18 hK18 => ?_
 refine CW.region ?_
 refine WR.batch 2 [(1, pt g2 0), (4, .int .u8 a0.Kind), (5, .bool (a0.Kind == (4 : Int)))] (by kernel_rfl) ?_
 refine WR.fin (by kernel_rfl) ?_
 refine go hK18 ?_
 refine CW.cond ((a0.Kind == (4 : Int))) (by kernel_rfl) (fun ht19 => ?_) (fun ht19 => ?_)
 ·
  have hs20 := ifT ht19 hs
  replace ht19 : a0.Kind = (4 : Int) := (bEqT ht19)
  refine CW.exit ?_
  refine go hK15 ?_
  refine CW.seq fun K21 hK21 => ?_
  refine CW.seq fun K22 hK22 => ?_
  refine CW.region ?_
  refine WR.batch 1 [(13, pt g2 1)] (by kernel_rfl) ?_
  refine WR.load (dst := some 14) (t := 25) (o := 1) hb5 (by kernel_rfl) (.agg #[.int .u64 a0.In.Lo, .int .u64 a0.In.Hi]) (by kernel_rfl) ?_
  refine WR.batch 1 [(14, .agg #[.int .u64 a0.In.Lo, .int .u64 a0.In.Hi]), (15, .agg #[.int .u64 0, .int .u64 0])] (by kernel_rfl) ?_
  refine WR.valR (dst := some 16) (v := .bool ((a0.In.Lo == (0 : Int)) && (a0.In.Hi == (0 : Int)))) (w' := w3) (run_eqS (t := 25) (xs := #[.int .u64 a0.In.Lo, .int .u64 a0.In.Hi]) (ys := #[.int .u64 0, .int .u64 0]) (neg := false) (b := ((a0.In.Lo == (0 : Int)) && (a0.In.Hi == (0 : Int)))) (by kernel_rfl) (by kernel_rfl) (by kernel_rfl) w3) ?_
  refine WR.batch 1 [(2, .bool ((a0.In.Lo == (0 : Int)) && (a0.In.Hi == (0 : Int))))] (by kernel_rfl) ?_
  refine WR.fin (by kernel_rfl) ?_
  refine go hK22 ?_
  refine CW.ret ?_
  exact retV (.bool ((a0.In.Lo == (0 : Int)) && (a0.In.Hi == (0 : Int)))) (by kernel_rfl) (⟨hC9, (congrArg (fun r : Bool => (.bool r : Value)) hs20).symm⟩)
 have hs23 := ifF ht19 hs
 replace ht19 : a0.Kind ≠ (4 : Int) := (bEqF ht19)
 refine CW.skip ?_
 refine go hK17 ?_
 refine CW.seq fun K24 hK24 => ?_
 refine CW.seq fun K25 hK25 => ?_
 refine CW.region ?_
 refine WR.batch 2 [(1, pt g2 0), (4, .int .u8 a0.Kind), (7, .bool (a0.Kind == (0 : Int)))] (by kernel_rfl) ?_
 refine WR.fin (by kernel_rfl) ?_
 refine go hK25 ?_
 refine CW.cond ((a0.Kind == (0 : Int))) (by kernel_rfl) (fun ht26 => ?_) (fun ht26 => ?_)
 ·
  have hs27 := ifT ht26 hs23
  replace ht26 : a0.Kind = (0 : Int) := (bEqT ht26)
  refine CW.exit ?_
  refine go hK15 ?_
  refine CW.seq fun K28 hK28 => ?_
  refine CW.seq fun K29 hK29 => ?_
  refine CW.region ?_
  refine WR.batch 1 [(13, pt g2 1)] (by kernel_rfl) ?_
  refine WR.load (dst := some 14) (t := 25) (o := 1) hb5 (by kernel_rfl) (.agg #[.int .u64 a0.In.Lo, .int .u64 a0.In.Hi]) (by kernel_rfl) ?_
  refine WR.batch 1 [(14, .agg #[.int .u64 a0.In.Lo, .int .u64 a0.In.Hi]), (15, .agg #[.int .u64 0, .int .u64 0])] (by kernel_rfl) ?_
  refine WR.valR (dst := some 16) (v := .bool ((a0.In.Lo == (0 : Int)) && (a0.In.Hi == (0 : Int)))) (w' := w3) (run_eqS (t := 25) (xs := #[.int .u64 a0.In.Lo, .int .u64 a0.In.Hi]) (ys := #[.int .u64 0, .int .u64 0]) (neg := false) (b := ((a0.In.Lo == (0 : Int)) && (a0.In.Hi == (0 : Int)))) (by kernel_rfl) (by kernel_rfl) (by kernel_rfl) w3) ?_
  refine WR.batch 1 [(2, .bool ((a0.In.Lo == (0 : Int)) && (a0.In.Hi == (0 : Int))))] (by kernel_rfl) ?_
  refine WR.fin (by kernel_rfl) ?_
  refine go hK29 ?_
  refine CW.ret ?_
  exact retV (.bool ((a0.In.Lo == (0 : Int)) && (a0.In.Hi == (0 : Int)))) (by kernel_rfl) (⟨hC9, (congrArg (fun r : Bool => (.bool r : Value)) hs27).symm⟩)
 have hs30 := ifF ht26 hs23
 replace ht26 : a0.Kind ≠ (0 : Int) := (bEqF ht26)
 refine CW.skip ?_
 refine go hK24 ?_
 refine CW.seq fun K31 hK31 => ?_
 refine CW.seq fun K32 hK32 => ?_
 refine CW.region ?_
 refine WR.batch 2 [(1, pt g2 0), (4, .int .u8 a0.Kind), (9, .bool (a0.Kind == (1 : Int)))] (by kernel_rfl) ?_
 refine WR.fin (by kernel_rfl) ?_
 refine go hK32 ?_
 refine CW.cond ((a0.Kind == (1 : Int))) (by kernel_rfl) (fun ht33 => ?_) (fun ht33 => ?_)
 ·
  have hs34 := ifT ht33 hs30
  replace ht33 : a0.Kind = (1 : Int) := (bEqT ht33)
  refine CW.exit ?_
  refine go hK14 ?_
  refine CW.seq fun K35 hK35 => ?_
  refine CW.seq fun K36 hK36 => ?_
  refine CW.region ?_
  refine WR.batch 1 [(17, pt g2 1)] (by kernel_rfl) ?_
  refine WR.load (dst := some 18) (t := 25) (o := 1) hb5 (by kernel_rfl) (.agg #[.int .u64 a0.In.Lo, .int .u64 a0.In.Hi]) (by kernel_rfl) ?_
  obtain ⟨x37, hx38⟩ : ∃ x, span_Right a0.In = x := ⟨_, rfl⟩
  have hs39 := letS hx38 hs34
  refine WR.call (dst := some 19) (by kernel_rfl) (retE (g := (fun r : Bool => (.bool r : Value))) hx38 (span_Right_any a0.In w3  ⟨(by omega), (by omega)⟩ )) ?_
  rintro _ w40 hc41 rfl
  have hz43 := hc41.size
  have hC42 := hC9.pure hc41
  refine WR.batch 1 [(2, .bool x37)] (by kernel_rfl) ?_
  refine WR.fin (by kernel_rfl) ?_
  refine go hK36 ?_
  refine CW.ret ?_
  exact retV (.bool x37) (by kernel_rfl) (⟨hC42, (congrArg (fun r : Bool => (.bool r : Value)) hs39).symm⟩)
 have hs44 := ifF ht33 hs30
 replace ht33 : a0.Kind ≠ (1 : Int) := (bEqF ht33)
 refine CW.skip ?_
 refine go hK31 ?_
 refine CW.seq fun K45 hK45 => ?_
 refine CW.region ?_
 refine WR.batch 2 [(1, pt g2 0), (11, .bool (a0.Kind == (2 : Int)))] (by kernel_rfl) ?_
 refine WR.fin (by kernel_rfl) ?_
 refine go hK45 ?_
 refine CW.cond ((a0.Kind == (2 : Int))) (by kernel_rfl) (fun ht46 => ?_) (fun ht46 => ?_)
 ·
  have hs47 := ifT ht46 hs44
  replace ht46 : a0.Kind = (2 : Int) := (bEqT ht46)
  refine CW.exit ?_
  refine go hK14 ?_
  refine CW.seq fun K48 hK48 => ?_
  refine CW.seq fun K49 hK49 => ?_
  refine CW.region ?_
  refine WR.batch 1 [(17, pt g2 1)] (by kernel_rfl) ?_
  refine WR.load (dst := some 18) (t := 25) (o := 1) hb5 (by kernel_rfl) (.agg #[.int .u64 a0.In.Lo, .int .u64 a0.In.Hi]) (by kernel_rfl) ?_
  obtain ⟨x50, hx51⟩ : ∃ x, span_Right a0.In = x := ⟨_, rfl⟩
  have hs52 := letS hx51 hs47
  refine WR.call (dst := some 19) (by kernel_rfl) (retE (g := (fun r : Bool => (.bool r : Value))) hx51 (span_Right_any a0.In w3  ⟨(by omega), (by omega)⟩ )) ?_
  rintro _ w53 hc54 rfl
  have hz56 := hc54.size
  have hC55 := hC9.pure hc54
  refine WR.batch 1 [(2, .bool x50)] (by kernel_rfl) ?_
  refine WR.fin (by kernel_rfl) ?_
  refine go hK49 ?_
  refine CW.ret ?_
  exact retV (.bool x50) (by kernel_rfl) (⟨hC55, (congrArg (fun r : Bool => (.bool r : Value)) hs52).symm⟩)
 have hs57 := ifF ht46 hs44
 replace ht46 : a0.Kind ≠ (2 : Int) := (bEqF ht46)
 refine CW.skip ?_
 refine go hK16 ?_
 refine CW.exit ?_
 refine go hK12 ?_
 refine CW.seq fun K58 hK58 => ?_
 refine CW.regionQ (by kernel_rfl) (by kernel_rfl) ?_
 refine WQ.val (dst := some 20) (pt g2 0) (fun _ => by kernel_rfl) ?_
 refine WQ.load (dst := some 21) (t := 54) (o := 0) (fun _ hq => hb5.pure hq) (by kernel_rfl) (.int .u8 a0.Kind) (by kernel_rfl) ?_
 refine WQ.val (dst := some 22) (.bool (a0.Kind == (3 : Int))) (fun _ => by kernel_rfl) ?_
 refine WQ.val (dst := some 23) (.bool (a0.Kind == (3 : Int))) (fun _ => by kernel_rfl) ?_
 refine WQ.merge 12 [(31, .bool ((a0.Kind == (3 : Int)) && ((a0.In.Lo == (span_Of a0.In.Lo).Lo) && (a0.In.Hi == (span_Of a0.In.Lo).Hi))))] (fun Q' => ?_) ?_
 ·
  cases hg59 : (a0.Kind == (3 : Int))
  ·
   have hk61 := hg59
   replace hg59 : a0.Kind ≠ (3 : Int) := (bEqF hg59)
   intro hM60
   refine WQ.pass1 (dst := some 24) (by kernel_rfl) ?_
   refine WQ.pass1 (dst := some 25) (by kernel_rfl) ?_
   refine WQ.pass1 (dst := some 26) (by kernel_rfl) ?_
   refine WQ.pass1 (dst := some 27) (by kernel_rfl) ?_
   refine WQ.pass1 (dst := some 28) (by kernel_rfl) ?_
   refine WQ.pass1 (dst := some 29) (by kernel_rfl) ?_
   refine WQ.pass1 (dst := some 30) (by kernel_rfl) ?_
   refine WQ.val (dst := some 31) (.bool false) (fun _ => by kernel_rfl) ?_
   exact WQ.keep [31] (by kernel_rfl) hM60
  ·
   have hk62 := hg59
   replace hg59 : a0.Kind = (3 : Int) := (bEqT hg59)
   intro hM60
   refine WQ.val (dst := some 24) (pt g2 1) (fun _ => by kernel_rfl) ?_
   refine WQ.load (dst := some 25) (t := 25) (o := 1) (fun _ hq => hb5.pure hq) (by kernel_rfl) (.agg #[.int .u64 a0.In.Lo, .int .u64 a0.In.Hi]) (by kernel_rfl) ?_
   refine WQ.val (dst := some 26) (pt g2 1) (fun _ => by kernel_rfl) ?_
   refine WQ.val (dst := some 27) (pt g2 1) (fun _ => by kernel_rfl) ?_
   refine WQ.load (dst := some 28) (t := 23) (o := 1) (fun _ hq => hb5.pure hq) (by kernel_rfl) (.int .u64 a0.In.Lo) (by kernel_rfl) ?_
   have hx63 : IU64 (span_Of a0.In.Lo).Lo ∧ IU64 (span_Of a0.In.Lo).Hi := span_Of_ok a0.In.Lo (by omega) 
   refine WQ.call (dst := some 29) (.agg #[.int .u64 (span_Of a0.In.Lo).Lo, .int .u64 (span_Of a0.In.Lo).Hi]) (fun _ => by kernel_rfl) (fun _ _ h h' => h.pure h') (fun wq hq => span_Of_any a0.In.Lo wq  (by omega) ) ?_
   refine WQ.val (dst := some 30) (.bool ((a0.In.Lo == (span_Of a0.In.Lo).Lo) && (a0.In.Hi == (span_Of a0.In.Lo).Hi))) (run_eqS (t := 25) (xs := #[.int .u64 a0.In.Lo, .int .u64 a0.In.Hi]) (ys := #[.int .u64 (span_Of a0.In.Lo).Lo, .int .u64 (span_Of a0.In.Lo).Hi]) (neg := false) (b := ((a0.In.Lo == (span_Of a0.In.Lo).Lo) && (a0.In.Hi == (span_Of a0.In.Lo).Hi))) (by kernel_rfl) (by kernel_rfl) (by kernel_rfl)) ?_
   refine WQ.val (dst := some 31) (.bool ((a0.In.Lo == (span_Of a0.In.Lo).Lo) && (a0.In.Hi == (span_Of a0.In.Lo).Hi))) (fun _ => by kernel_rfl) ?_
   exact WQ.keep [31] (by kernel_rfl) hM60
 have hx64 : IU64 (span_Of a0.In.Lo).Lo ∧ IU64 (span_Of a0.In.Lo).Hi := span_Of_ok a0.In.Lo (by omega) 
 refine WQ.val (dst := some 2) (.bool ((a0.Kind == (3 : Int)) && ((a0.In.Lo == (span_Of a0.In.Lo).Lo) && (a0.In.Hi == (span_Of a0.In.Lo).Hi)))) (fun _ => by kernel_rfl) ?_
 refine WQ.fin (by kernel_rfl) ?_
 intro w65 hc66
 have hz68 := hc66.size
 have hC67 := hC9.pure hc66
 refine go hK58 ?_
 refine CW.ret ?_
 exact retV (.bool ((a0.Kind == (3 : Int)) && ((a0.In.Lo == (span_Of a0.In.Lo).Lo) && (a0.In.Hi == (span_Of a0.In.Lo).Hi)))) (by kernel_rfl) (⟨hC67, (congrArg (fun r : Bool => (.bool r : Value)) hs57).symm⟩)

def kind_number (a0 : TKnown)  : (TSpan × Bool) := (if (a0.Kind == (4 : Int)) then ((⟨(0 : Int), (65535 : Int)⟩ : TSpan), true) else (a0.In, (a0.Kind == (1 : Int))))

theorem kind_number_ok (a0 : TKnown)  (_h_a0 : IU8 a0.Kind ∧ IU64 a0.In.Lo ∧ IU64 a0.In.Hi)  : IU64 (kind_number a0).1.Lo ∧ IU64 (kind_number a0).1.Hi := by
 rw [kind_number.eq_1]
 refine iteR (p := fun r : (TSpan × Bool) => IU64 r.1.Lo ∧ IU64 r.1.Hi) (fun hi1001 => ?_) (fun hi1001 => ?_)
 ·
  replace hi1001 : a0.Kind = (4 : Int) := (bEqT hi1001)
  exact (by exact (show IU64 (0 : Int) ∧ IU64 (65535 : Int) from ⟨(by omega), (by omega)⟩))
 replace hi1001 : a0.Kind ≠ (4 : Int) := (bEqF hi1001)
 exact (by exact (show IU64 a0.In.Lo ∧ IU64 a0.In.Hi from ⟨(by omega), (by omega)⟩))

theorem kind_number_any (a0 : TKnown)   (w : World)  (_h_a0 : IU8 a0.Kind ∧ IU64 a0.In.Lo ∧ IU64 a0.In.Hi)  : Calls Try.prog 64 #[.agg #[.int .u8 a0.Kind, .int .u64 a0.In.Lo, .int .u64 a0.In.Hi]] w (RetV w (.tuple #[TSpan.v (kind_number a0).1, .bool (kind_number a0).2])) := by
 have hs := kind_number.eq_1 a0
 refine calls_of_CW Try.func64 rfl (n := 13) Try.ntmps64 (by kernel_rfl) [0] (F := [(0, .agg #[.int .u8 a0.Kind, .int .u64 a0.In.Lo, .int .u64 a0.In.Hi])]) (by kernel_rfl) ?_
 refine CW.seq fun K1 hK1 => ?_
 refine CW.region ?_
 refine WR.box (dst := some 1) (e := 56) (v := .agg #[.int .u8 a0.Kind, .int .u64 a0.In.Lo, .int .u64 a0.In.Hi]) (by kernel_rfl) #[.int .u8 a0.Kind, .int .u64 a0.In.Lo, .int .u64 a0.In.Hi] (by kernel_rfl) ?_
 intro g2 w3 hN4
 have hf6 : w.heap.size ≤ g2 := hN4.fresh
 have hfr8 := hN4.fresh
 have hc7 := hN4.chg
 have hz10 := hc7.size
 have hC9 := (Chg.refl [] w).pure hc7
 have hb5 := hN4.blk
 have hg11 := hb5.lt
 refine WR.alloc (dst := some 2) (e := 25) (by kernel_rfl) #[.int .u64 0, .int .u64 0] (by kernel_rfl) ?_
 intro g12 w13 hN14
 have hf16 : w.heap.size ≤ g12 := Nat.le_trans hC9.size hN14.fresh
 have hfr18 := hN14.fresh
 have hc17 := hN14.chg
 have hz20 := hc17.size
 have hC19 := hC9.pure hc17
 have hb15 := hN14.blk
 have hg21 := hb15.lt
 refine WR.batch 1 [(1, pt g2 0), (2, pt g12 0)] (by kernel_rfl) ?_
 refine WR.fin (by kernel_rfl) ?_
 refine go hK1 ?_
 refine CW.seq fun K22 hK22 => ?_
 refine CW.seq fun K23 hK23 => ?_
 refine CW.region ?_
 refine WR.batch 1 [(1, pt g2 0), (2, pt g12 0), (4, pt g2 0)] (by kernel_rfl) ?_
 have hb24 := hb5.pure hc17
 refine WR.load (dst := some 5) (t := 54) (o := 0) hb24 (by kernel_rfl) (.int .u8 a0.Kind) (by kernel_rfl) ?_
 refine WR.batch 1 [(1, pt g2 0), (2, pt g12 0), (6, .bool (a0.Kind == (4 : Int)))] (by kernel_rfl) ?_
 refine WR.fin (by kernel_rfl) ?_
 refine go hK23 ?_
 refine CW.cond ((a0.Kind == (4 : Int))) (by kernel_rfl) (fun ht25 => ?_) (fun ht25 => ?_)
 ·
  have hs26 := ifT ht25 hs
  replace ht25 : a0.Kind = (4 : Int) := (bEqT ht25)
  refine CW.seq fun K27 hK27 => ?_
  refine CW.region ?_
  refine WR.batch 1 [(2, pt g12 0), (7, .agg #[.int .u64 0, .int .u64 65535])] (by kernel_rfl) ?_
  refine WR.store (t := 25) (o := 0) (v := .agg #[.int .u64 0, .int .u64 65535]) hb15 (by kernel_rfl) #[.int .u64 0, .int .u64 65535] (by kernel_rfl) ?_
  intro w28 hb29 hc30
  have hz32 := hc30.size
  have hC31 := hC19.step1 hc30 (by omega)
  refine WR.batch 1 [(2, pt g12 0), (3, .bool true)] (by kernel_rfl) ?_
  refine WR.fin (by kernel_rfl) ?_
  refine go hK27 ?_
  refine CW.ret ?_
  exact retC [.agg #[.int .u64 0, .int .u64 65535], .bool true] _ rfl ⟨resCell hb29 rfl (by kernel_rfl), rfl, trivial⟩ (⟨hC31, (congrArg (fun r : (TSpan × Bool) => (.tuple #[TSpan.v r.1, .bool r.2] : Value)) hs26).symm⟩)
 have hs33 := ifF ht25 hs
 replace ht25 : a0.Kind ≠ (4 : Int) := (bEqF ht25)
 refine CW.skip ?_
 refine go hK22 ?_
 refine CW.seq fun K34 hK34 => ?_
 refine CW.keep [1, 2] (F' := [(1, pt g2 0), (2, pt g12 0)]) (by kernel_rfl) ?_
 refine CW.regionG 6 [some (pt g2 1), some (.agg #[.int .u64 a0.In.Lo, .int .u64 a0.In.Hi]), some (pt g2 0), some (.int .u8 a0.Kind), some (.bool (a0.Kind == (1 : Int))), none] (fun u => [(8, pt g2 1), (9, .agg #[.int .u64 a0.In.Lo, .int .u64 a0.In.Hi]), (10, pt g2 0), (11, .int .u8 a0.Kind), (12, .bool (a0.Kind == (1 : Int))), (1, pt g2 0), (2, pt g12 0)]) (fun _ => by kernel_rfl) (by kernel_rfl) [(5, g12)] (fun i w' => match i with | 0 => True | 1 => True | 2 => True | 3 => True | 4 => True | 5 => Blk w' g12 #[.int .u64 0, .int .u64 0] 25 | _ => True) (fun j => match j with | 0 => trivial | 1 => trivial | 2 => trivial | 3 => trivial | 4 => trivial | 5 => hb15.pure (Chg.drew w13) | j + 6 => trivial) ?_ [] [] (by kernel_rfl) (fun w' => Chg [g12] w13 w') (fun i v w' => match i with | 0 => True | 1 => True | 2 => True | 3 => True | 4 => True | 5 => Blk w' g12 #[.int .u64 a0.In.Lo, .int .u64 a0.In.Hi] 25 | _ => True) (fun j x w hj h => absurd hj (by simp)) (by kernel_rfl) (by kernel_rfl) (by kernel_rfl) (by kernel_rfl) ((Chg.drew w13).weak (by simp)) (fun _ _ _ h h' => h.step h' (fun t ht => .inl (cL_sub t ht))) ?_ (obsG_batch 1 0 5 (fun _ _ => by kernel_rfl) (by kernel_rfl) ⟨?_, (obsG_batch 1 2 3 (fun _ _ => by kernel_rfl) (by kernel_rfl) ⟨?_, (obsG_batch 1 4 1 (fun _ _ => by kernel_rfl) (by kernel_rfl) ⟨?_, trivial⟩)⟩)⟩) ?_
 ·
  intro i j w1 w2 hij h hc
  match j, hij, h with
  | 0, hij, h => exact trivial
  | 1, hij, h => exact trivial
  | 2, hij, h => exact trivial
  | 3, hij, h => exact trivial
  | 4, hij, h => exact trivial
  | 5, hij, h => exact h.chg hc (cL_not (by intro p hp e; simp only [List.mem_cons, List.not_mem_nil, or_false] at hp; rcases hp with rfl <;> (simp only at e ⊢; omega)))
  | n + 6, _, _ => trivial
 ·
  intro i j v w1 w2 hij h hc
  match j, hij, h with
  | 0, _, _ => trivial
  | 1, _, _ => trivial
  | 2, _, _ => trivial
  | 3, _, _ => trivial
  | 4, _, _ => trivial
  | 5, hij, h => exact h.chg hc (cL_not (by intro p hp e; simp only [List.mem_cons, List.not_mem_nil, or_false] at hp; rcases hp with rfl <;> (simp only at e ⊢; omega)))
  | n + 6, _, _ => trivial
 ·
  intro u35 w36 hW37 hPr40 hp38 hal39
  have hz42 := hW37.size
  have hC41 := hC19.step1 hW37 (by omega)
  have hb43 : Blk w36 g12 #[.int .u64 0, .int .u64 0] 25 := hPr40 5 (.inr (.one (by kernel_rfl)))
  have hb44 := hb24.chg1 hW37 (by omega)
  refine WR.load (dst := some 9) (t := 25) (o := 1) hb44 (by kernel_rfl) (.agg #[.int .u64 a0.In.Lo, .int .u64 a0.In.Hi]) (by kernel_rfl) ?_
  refine WR.fin (by kernel_rfl) ?_
  exact fun _ ha => ⟨Chg.refl _ _, _, ha, ⟨⟨fun h => absurd h (by decide), alNone (by decide)⟩, rfl⟩⟩
 ·
  intro u45 w46 hW47 _ hp48 hal49
  have hz52 := hW47.size
  have hC51 := hC19.step1 hW47 (by omega)
  have hb53 := hb24.chg1 hW47 (by omega)
  refine WR.load (dst := some 11) (t := 54) (o := 0) hb53 (by kernel_rfl) (.int .u8 a0.Kind) (by kernel_rfl) ?_
  refine WR.fin (by kernel_rfl) ?_
  exact fun _ ha => ⟨Chg.refl _ _, _, ha, ⟨⟨fun h => absurd h (by decide), alNone (by decide)⟩, rfl⟩⟩
 ·
  intro u54 w55 hW56 hPr59 hp57 hal58
  have hz61 := hW56.size
  have hC60 := hC19.step1 hW56 (by omega)
  have hb62 : Blk w55 g12 #[.int .u64 0, .int .u64 0] 25 := hPr59 5 (.inl rfl)
  refine WR.store (t := 25) (o := 0) (v := .agg #[.int .u64 a0.In.Lo, .int .u64 a0.In.Hi]) hb62 (by kernel_rfl) #[.int .u64 a0.In.Lo, .int .u64 a0.In.Hi] (by kernel_rfl) ?_
  intro w63 hb64 hc65
  have hz67 := hc65.size
  have hC66 := hC60.step1 hc65 (by omega)
  refine WR.fin (by kernel_rfl) ?_
  exact fun _ ha => ⟨hc65, undef, ha, ⟨⟨fun h => absurd h (by decide), alNone (by decide)⟩, hb64⟩⟩
 intro u68 w69 hW70 hr71 _ _
 have hz75 := hW70.size
 have hC74 := hC19.step1 hW70 (by omega)
 have hp76 : Blk w69 g12 #[.int .u64 a0.In.Lo, .int .u64 a0.In.Hi] 25 := hr71 5 (by omega) (by kernel_rfl)
 refine WR.keep [2, 12] (F' := [(2, pt g12 0), (12, .bool (a0.Kind == (1 : Int)))]) (by kernel_rfl) ?_
 refine WR.batch 1 [(2, pt g12 0), (3, .bool (a0.Kind == (1 : Int)))] (by kernel_rfl) ?_
 refine WR.fin (by kernel_rfl) ?_
 refine go hK34 ?_
 refine CW.ret ?_
 exact retC [.agg #[.int .u64 a0.In.Lo, .int .u64 a0.In.Hi], .bool (a0.Kind == (1 : Int))] _ rfl ⟨resCell hp76 rfl (by kernel_rfl), rfl, trivial⟩ (⟨hC74, (congrArg (fun r : (TSpan × Bool) => (.tuple #[TSpan.v r.1, .bool r.2] : Value)) hs33).symm⟩)

def kind_Holds (a0 : TKnown) (a1 : Int) (a2 : Int) (a3 : Int)  : Bool := (letF (kind_Right a0) fun x14 => (if (!x14) then false else (if (a0.Kind == (0 : Int)) then true else (if (a0.Kind == (4 : Int)) then (((a1 == (1 : Int)) && (decide (a3 ≥ (0 : Int)))) && (a2 == (IntKind.u64.wrap a3))) else ((a1 == a0.Kind) && (span_Has a0.In a2))))))

set_option maxRecDepth 100000 in
set_option maxHeartbeats 4000000 in
theorem kind_Holds_any (a0 : TKnown) (a1 : Int) (a2 : Int) (a3 : Int)   (w : World)  (_h_a0 : IU8 a0.Kind ∧ IU64 a0.In.Lo ∧ IU64 a0.In.Hi) (_h_a1 : IU8 a1) (_h_a2 : IU64 a2) (_h_a3 : II64 a3)  : Calls Try.prog 42 #[.agg #[.int .u8 a0.Kind, .int .u64 a0.In.Lo, .int .u64 a0.In.Hi], .int .u8 a1, .int .u64 a2, .int .i64 a3] w (RetV w (.bool (kind_Holds a0 a1 a2 a3))) := by
 have hs := kind_Holds.eq_1 a0 a1 a2 a3
 refine calls_of_CW Try.func42 rfl (n := 43) Try.ntmps42 (by kernel_rfl) [0, 1, 2, 3] (F := [(0, .agg #[.int .u8 a0.Kind, .int .u64 a0.In.Lo, .int .u64 a0.In.Hi]), (1, .int .u8 a1), (2, .int .u64 a2), (3, .int .i64 a3)]) (by kernel_rfl) ?_
 refine CW.seq fun K1 hK1 => ?_
 refine CW.region ?_
 refine WR.box (dst := some 4) (e := 56) (v := .agg #[.int .u8 a0.Kind, .int .u64 a0.In.Lo, .int .u64 a0.In.Hi]) (by kernel_rfl) #[.int .u8 a0.Kind, .int .u64 a0.In.Lo, .int .u64 a0.In.Hi] (by kernel_rfl) ?_
 intro g2 w3 hN4
 have hf6 : w.heap.size ≤ g2 := hN4.fresh
 have hfr8 := hN4.fresh
 have hc7 := hN4.chg
 have hz10 := hc7.size
 have hC9 := (Chg.refl [] w).pure hc7
 have hb5 := hN4.blk
 have hg11 := hb5.lt
 refine WR.batch 1 [(1, .int .u8 a1), (2, .int .u64 a2), (3, .int .i64 a3), (4, pt g2 0)] (by kernel_rfl) ?_
 refine WR.fin (by kernel_rfl) ?_
 refine go hK1 ?_
 refine CW.seq fun K12 hK12 => ?_
 refine CW.block ?_
 refine CW.seq fun K13 hK13 => ?_
 refine CW.region ?_
 refine WR.load (dst := some 10) (t := 56) (o := 0) hb5 (by kernel_rfl) (.agg #[.int .u8 a0.Kind, .int .u64 a0.In.Lo, .int .u64 a0.In.Hi]) (by kernel_rfl) ?_
 obtain ⟨x14, hx15⟩ : ∃ x, kind_Right a0 = x := ⟨_, rfl⟩
 have hs16 := letS hx15 hs
 refine WR.call (dst := some 11) (by kernel_rfl) (retE (g := (fun r : Bool => (.bool r : Value))) hx15 (kind_Right_any a0 w3  ⟨(by omega), (by omega), (by omega)⟩ )) ?_
 rintro _ w17 hc18 rfl
 have hz20 := hc18.size
 have hC19 := hC9.pure hc18
 refine WR.batch 2 [(1, .int .u8 a1), (2, .int .u64 a2), (3, .int .i64 a3), (4, pt g2 0), (9, .bool (!x14))] (by kernel_rfl) ?_
 refine WR.fin (by kernel_rfl) ?_
 refine go hK13 ?_
 refine CW.cond ((!x14)) (by kernel_rfl) (fun ht21 => ?_) (fun ht21 => ?_)
 ·
  have hs22 := ifT ht21 hs16
  replace ht21 : x14 = false := (bNotT ht21)
  refine CW.seq fun K23 hK23 => ?_
  refine CW.region ?_
  refine WR.batch 1 [(8, .bool false)] (by kernel_rfl) ?_
  refine WR.fin (by kernel_rfl) ?_
  refine go hK23 ?_
  refine CW.ret ?_
  exact retV (.bool false) (by kernel_rfl) (⟨hC19, (congrArg (fun r : Bool => (.bool r : Value)) hs22).symm⟩)
 have hs24 := ifF ht21 hs16
 replace ht21 : x14 = true := (bNotF ht21)
 refine CW.seq fun K25 hK25 => ?_
 refine CW.region ?_
 refine WR.batch 1 [(1, .int .u8 a1), (2, .int .u64 a2), (3, .int .i64 a3), (4, pt g2 0), (14, pt g2 0)] (by kernel_rfl) ?_
 have hb26 := hb5.pure hc18
 refine WR.load (dst := some 15) (t := 54) (o := 0) hb26 (by kernel_rfl) (.int .u8 a0.Kind) (by kernel_rfl) ?_
 refine WR.batch 2 [(1, .int .u8 a1), (2, .int .u64 a2), (3, .int .i64 a3), (4, pt g2 0), (13, .bool (a0.Kind == (0 : Int)))] (by kernel_rfl) ?_
 refine WR.fin (by kernel_rfl) ?_
 refine go hK25 ?_
 refine CW.cond ((a0.Kind == (0 : Int))) (by kernel_rfl) (fun ht27 => ?_) (fun ht27 => ?_)
 ·
  have hs28 := ifT ht27 hs24
  replace ht27 : a0.Kind = (0 : Int) := (bEqT ht27)
  refine CW.seq fun K29 hK29 => ?_
  refine CW.region ?_
  refine WR.batch 1 [(8, .bool true)] (by kernel_rfl) ?_
  refine WR.fin (by kernel_rfl) ?_
  refine go hK29 ?_
  refine CW.ret ?_
  exact retV (.bool true) (by kernel_rfl) (⟨hC19, (congrArg (fun r : Bool => (.bool r : Value)) hs28).symm⟩)
 have hs30 := ifF ht27 hs24
 replace ht27 : a0.Kind ≠ (0 : Int) := (bEqF ht27)
 refine CW.seq fun K31 hK31 => ?_
 refine CW.region ?_
 refine WR.batch 1 [(1, .int .u8 a1), (2, .int .u64 a2), (3, .int .i64 a3), (4, pt g2 0), (18, pt g2 0)] (by kernel_rfl) ?_
 refine WR.load (dst := some 19) (t := 54) (o := 0) hb26 (by kernel_rfl) (.int .u8 a0.Kind) (by kernel_rfl) ?_
 refine WR.batch 2 [(1, .int .u8 a1), (2, .int .u64 a2), (3, .int .i64 a3), (4, pt g2 0), (17, .bool (a0.Kind == (4 : Int)))] (by kernel_rfl) ?_
 refine WR.fin (by kernel_rfl) ?_
 refine go hK31 ?_
 refine CW.cond ((a0.Kind == (4 : Int))) (by kernel_rfl) (fun ht32 => ?_) (fun ht32 => ?_)
 ·
  have hs33 := ifT ht32 hs30
  replace ht32 : a0.Kind = (4 : Int) := (bEqT ht32)
  refine CW.seq fun K34 hK34 => ?_
  refine CW.region ?_
  refine WR.batch 3 [(2, .int .u64 a2), (3, .int .i64 a3), (23, .bool (a1 == (1 : Int)))] (by kernel_rfl) ?_
  refine WR.batch 3 [(2, .int .u64 a2), (3, .int .i64 a3), (26, .bool ((a1 == (1 : Int)) && (decide (a3 ≥ (0 : Int)))))] (by generalize (a1 == (1 : Int)) = b; cases b <;> kernel_rfl) ?_
  refine WR.batch 1 [(2, .int .u64 a2), (3, .int .i64 a3), (27, .bool ((a1 == (1 : Int)) && (decide (a3 ≥ (0 : Int)))))] (by kernel_rfl) ?_
  refine WR.batch 5 [(32, .bool (((a1 == (1 : Int)) && (decide (a3 ≥ (0 : Int)))) && (a2 == (IntKind.u64.wrap a3))))] (by generalize ((a1 == (1 : Int)) && (decide (a3 ≥ (0 : Int)))) = b; cases b <;> kernel_rfl) ?_
  refine WR.batch 1 [(8, .bool (((a1 == (1 : Int)) && (decide (a3 ≥ (0 : Int)))) && (a2 == (IntKind.u64.wrap a3))))] (by kernel_rfl) ?_
  refine WR.fin (by kernel_rfl) ?_
  refine go hK34 ?_
  refine CW.ret ?_
  exact retV (.bool (((a1 == (1 : Int)) && (decide (a3 ≥ (0 : Int)))) && (a2 == (IntKind.u64.wrap a3)))) (by kernel_rfl) (⟨hC19, (congrArg (fun r : Bool => (.bool r : Value)) hs33).symm⟩)
 have hs35 := ifF ht32 hs30
 replace ht32 : a0.Kind ≠ (4 : Int) := (bEqF ht32)
 refine CW.skip ?_
 refine go hK12 ?_
 refine CW.seq fun K36 hK36 => ?_
 refine CW.region ?_
 refine WR.batch 2 [(2, .int .u64 a2), (4, pt g2 0), (33, .int .u8 a1), (34, pt g2 0)] (by kernel_rfl) ?_
 refine WR.load (dst := some 35) (t := 54) (o := 0) hb26 (by kernel_rfl) (.int .u8 a0.Kind) (by kernel_rfl) ?_
 refine WR.batch 2 [(2, .int .u64 a2), (4, pt g2 0), (37, .bool (a1 == a0.Kind))] (by kernel_rfl) ?_
 refine WR.mergeW 10 [(42, .bool ((a1 == a0.Kind) && (span_Has a0.In a2)))] (fun w' => Chg [] w17 w') (fun Q' => ?_) ?_
 ·
  cases hg37 : (a1 == a0.Kind)
  ·
   have hk39 := hg37
   replace hg37 : a1 ≠ a0.Kind := (bEqF hg37)
   intro hM38
   refine WR.batch 5 [(42, .bool false)] (by kernel_rfl) ?_
   exact WR.keep [42] (by kernel_rfl) (hM38 _ (Chg.refl [] w17))
  ·
   have hk40 := hg37
   replace hg37 : a1 = a0.Kind := (bEqT hg37)
   intro hM38
   refine WR.batch 1 [(2, .int .u64 a2), (37, .bool true), (38, pt g2 1)] (by kernel_rfl) ?_
   refine WR.load (dst := some 39) (t := 25) (o := 1) hb26 (by kernel_rfl) (.agg #[.int .u64 a0.In.Lo, .int .u64 a0.In.Hi]) (by kernel_rfl) ?_
   refine WR.batch 1 [(37, .bool true), (39, .agg #[.int .u64 a0.In.Lo, .int .u64 a0.In.Hi]), (40, .int .u64 a2)] (by kernel_rfl) ?_
   refine WR.call (dst := some 41) (by kernel_rfl) (span_Has_any a0.In a2 w17  ⟨(by omega), (by omega)⟩ (by omega) ) ?_
   rintro _ w41 hc42 rfl
   have hz44 := hc42.size
   have hC43 := hC19.pure hc42
   refine WR.batch 1 [(42, .bool (span_Has a0.In a2))] (by kernel_rfl) ?_
   exact WR.keep [42] (by kernel_rfl) (hM38 _ ((Chg.refl [] w17).pure hc42))
 intro w45 hc46
 have hz48 := hc46.size
 have hC47 := hC19.pure hc46
 refine WR.batch 1 [(8, .bool ((a1 == a0.Kind) && (span_Has a0.In a2)))] (by kernel_rfl) ?_
 refine WR.fin (by kernel_rfl) ?_
 refine go hK36 ?_
 refine CW.ret ?_
 exact retV (.bool ((a1 == a0.Kind) && (span_Has a0.In a2))) (by kernel_rfl) (⟨hC47, (congrArg (fun r : Bool => (.bool r : Value)) hs35).symm⟩)

def kind_Within_J0 (a0 : TKnown) (a1 : TKnown) (_x25 : Bool) (x51 : (TSpan × Bool)) (v100 : Bool) : Bool := (if v100 then ((a0.Kind == a1.Kind) && ((a0.In.Lo == a1.In.Lo) && (a0.In.Hi == a1.In.Hi))) else (if ((a1.Kind == (1 : Int)) && (a0.Kind == (4 : Int))) then (letF (span_Within x51.1 a1.In) fun x118 => x118) else ((a0.Kind == a1.Kind) && (span_Within a0.In a1.In))))

def kind_Within (a0 : TKnown) (a1 : TKnown)  : Bool := (letF (kind_Right a0) fun x25 => (if ((!x25) || (!(kind_Right a1))) then false else (letF (kind_number a0) fun x51 => (if (a1.Kind == (0 : Int)) then true else (if (a1.Kind == (4 : Int)) then (kind_Within_J0 a0 a1 x25 x51 true) else (kind_Within_J0 a0 a1 x25 x51 (a1.Kind == (3 : Int))))))))

set_option maxRecDepth 100000 in
set_option maxHeartbeats 4000000 in
theorem kind_Within_any (a0 : TKnown) (a1 : TKnown)   (w : World)  (_h_a0 : IU8 a0.Kind ∧ IU64 a0.In.Lo ∧ IU64 a0.In.Hi) (_h_a1 : IU8 a1.Kind ∧ IU64 a1.In.Lo ∧ IU64 a1.In.Hi)  : Calls Try.prog 44 #[.agg #[.int .u8 a0.Kind, .int .u64 a0.In.Lo, .int .u64 a0.In.Hi], .agg #[.int .u8 a1.Kind, .int .u64 a1.In.Lo, .int .u64 a1.In.Hi]] w (RetV w (.bool (kind_Within a0 a1))) := by
 have hs := kind_Within.eq_1 a0 a1
 refine calls_of_CW Try.func44 rfl (n := 59) Try.ntmps44 (by kernel_rfl) [0, 1] (F := [(0, .agg #[.int .u8 a0.Kind, .int .u64 a0.In.Lo, .int .u64 a0.In.Hi]), (1, .agg #[.int .u8 a1.Kind, .int .u64 a1.In.Lo, .int .u64 a1.In.Hi])]) (by kernel_rfl) ?_
 refine CW.seq fun K1 hK1 => ?_
 refine CW.region ?_
 refine WR.box (dst := some 2) (e := 56) (v := .agg #[.int .u8 a0.Kind, .int .u64 a0.In.Lo, .int .u64 a0.In.Hi]) (by kernel_rfl) #[.int .u8 a0.Kind, .int .u64 a0.In.Lo, .int .u64 a0.In.Hi] (by kernel_rfl) ?_
 intro g2 w3 hN4
 have hf6 : w.heap.size ≤ g2 := hN4.fresh
 have hfr8 := hN4.fresh
 have hc7 := hN4.chg
 have hz10 := hc7.size
 have hC9 := (Chg.refl [] w).pure hc7
 have hb5 := hN4.blk
 have hg11 := hb5.lt
 refine WR.box (dst := some 3) (e := 56) (v := .agg #[.int .u8 a1.Kind, .int .u64 a1.In.Lo, .int .u64 a1.In.Hi]) (by kernel_rfl) #[.int .u8 a1.Kind, .int .u64 a1.In.Lo, .int .u64 a1.In.Hi] (by kernel_rfl) ?_
 intro g12 w13 hN14
 have hf16 : w.heap.size ≤ g12 := Nat.le_trans hC9.size hN14.fresh
 have hfr18 := hN14.fresh
 have hc17 := hN14.chg
 have hz20 := hc17.size
 have hC19 := hC9.pure hc17
 have hb15 := hN14.blk
 have hg21 := hb15.lt
 refine WR.batch 1 [(2, pt g2 0), (3, pt g12 0)] (by kernel_rfl) ?_
 refine WR.fin (by kernel_rfl) ?_
 refine go hK1 ?_
 refine CW.seq fun K22 hK22 => ?_
 refine CW.seq fun K23 hK23 => ?_
 refine CW.region ?_
 have hb24 := hb5.pure hc17
 refine WR.load (dst := some 7) (t := 56) (o := 0) hb24 (by kernel_rfl) (.agg #[.int .u8 a0.Kind, .int .u64 a0.In.Lo, .int .u64 a0.In.Hi]) (by kernel_rfl) ?_
 obtain ⟨x25, hx26⟩ : ∃ x, kind_Right a0 = x := ⟨_, rfl⟩
 have hs27 := letS hx26 hs
 refine WR.call (dst := some 8) (by kernel_rfl) (retE (g := (fun r : Bool => (.bool r : Value))) hx26 (kind_Right_any a0 w13  ⟨(by omega), (by omega), (by omega)⟩ )) ?_
 rintro _ w28 hc29 rfl
 have hz31 := hc29.size
 have hC30 := hC19.pure hc29
 refine WR.batch 2 [(2, pt g2 0), (3, pt g12 0), (10, .bool (!x25))] (by kernel_rfl) ?_
 refine WR.mergeW 8 [(2, pt g2 0), (3, pt g12 0), (14, .bool ((!x25) || (!(kind_Right a1))))] (fun w' => Chg [] w28 w') (fun Q' => ?_) ?_
 ·
  cases hg32 : (!x25)
  ·
   have hk34 := hg32
   replace hg32 : x25 = true := (bNotF hg32)
   intro hM33
   have hb35 := hb15.pure hc29
   refine WR.load (dst := some 11) (t := 56) (o := 0) hb35 (by kernel_rfl) (.agg #[.int .u8 a1.Kind, .int .u64 a1.In.Lo, .int .u64 a1.In.Hi]) (by kernel_rfl) ?_
   refine WR.call (dst := some 12) (by kernel_rfl) (kind_Right_any a1 w28  ⟨(by omega), (by omega), (by omega)⟩ ) ?_
   rintro _ w36 hc37 rfl
   have hz39 := hc37.size
   have hC38 := hC30.pure hc37
   refine WR.batch 2 [(2, pt g2 0), (3, pt g12 0), (14, .bool (!(kind_Right a1)))] (by kernel_rfl) ?_
   exact WR.keep [2, 3, 14] (by kernel_rfl) (hM33 _ ((Chg.refl [] w28).pure hc37))
  ·
   have hk40 := hg32
   replace hg32 : x25 = false := (bNotT hg32)
   intro hM33
   refine WR.batch 4 [(2, pt g2 0), (3, pt g12 0), (14, .bool true)] (by kernel_rfl) ?_
   exact WR.keep [2, 3, 14] (by kernel_rfl) (hM33 _ (Chg.refl [] w28))
 intro w41 hc42
 have hz44 := hc42.size
 have hC43 := hC30.pure hc42
 refine WR.fin (by kernel_rfl) ?_
 refine go hK23 ?_
 refine CW.cond (((!x25) || (!(kind_Right a1)))) (by kernel_rfl) (fun ht45 => ?_) (fun ht45 => ?_)
 ·
  have hs46 := ifT ht45 hs27
  replace ht45 : (x25 = false) ∨ ((kind_Right a1) = false) := (orMap (bOrT ht45) (fun h => (bNotT h)) (fun h => (bNotT h)))
  refine CW.seq fun K47 hK47 => ?_
  refine CW.region ?_
  refine WR.batch 1 [(4, .bool false)] (by kernel_rfl) ?_
  refine WR.fin (by kernel_rfl) ?_
  refine go hK47 ?_
  refine CW.ret ?_
  exact retV (.bool false) (by kernel_rfl) (⟨hC43, (congrArg (fun r : Bool => (.bool r : Value)) hs46).symm⟩)
 have hs48 := ifF ht45 hs27
 replace ht45 : (x25 = true) ∧ ((kind_Right a1) = true) := ⟨(bNotF (bOrF ht45).1), (bNotF (bOrF ht45).2)⟩
 refine CW.skip ?_
 refine go hK22 ?_
 refine CW.seq fun K49 hK49 => ?_
 refine CW.region ?_
 have hb50 := (hb24.pure hc29).pure hc42
 refine WR.load (dst := some 16) (t := 56) (o := 0) hb50 (by kernel_rfl) (.agg #[.int .u8 a0.Kind, .int .u64 a0.In.Lo, .int .u64 a0.In.Hi]) (by kernel_rfl) ?_
 obtain ⟨x51, hx52⟩ : ∃ x, kind_number a0 = x := ⟨_, rfl⟩
 have hs54 := letS hx52 hs48
 have hx53 : IU64 x51.1.Lo ∧ IU64 x51.1.Hi := by rw [← hx52]; exact kind_number_ok a0 ⟨(by omega), (by omega), (by omega)⟩ 
 refine WR.call (dst := some 17) (by kernel_rfl) (retE (g := (fun r : (TSpan × Bool) => (.tuple #[TSpan.v r.1, .bool r.2] : Value))) hx52 (kind_number_any a0 w41  ⟨(by omega), (by omega), (by omega)⟩ )) ?_
 rintro _ w55 hc56 rfl
 have hz58 := hc56.size
 have hC57 := hC43.pure hc56
 refine WR.batch 3 [(2, pt g2 0), (3, pt g12 0), (18, .agg #[.int .u64 x51.1.Lo, .int .u64 x51.1.Hi]), (19, .bool x51.2)] (by kernel_rfl) ?_
 refine WR.alloc (dst := some 5) (e := 25) (by kernel_rfl) #[.int .u64 0, .int .u64 0] (by kernel_rfl) ?_
 intro g59 w60 hN61
 have hf63 : w.heap.size ≤ g59 := Nat.le_trans hC57.size hN61.fresh
 have hfr65 := hN61.fresh
 have hc64 := hN61.chg
 have hz67 := hc64.size
 have hC66 := hC57.pure hc64
 have hb62 := hN61.blk
 have hg68 := hb62.lt
 refine WR.store (t := 25) (o := 0) (v := .agg #[.int .u64 x51.1.Lo, .int .u64 x51.1.Hi]) hb62 (by kernel_rfl) #[.int .u64 x51.1.Lo, .int .u64 x51.1.Hi] (by kernel_rfl) ?_
 intro w69 hb70 hc71
 have hz73 := hc71.size
 have hC72 := hC66.step1 hc71 (by omega)
 refine WR.batch 1 [(2, pt g2 0), (3, pt g12 0), (5, pt g59 0)] (by kernel_rfl) ?_
 refine WR.fin (by kernel_rfl) ?_
 refine go hK49 ?_
 refine CW.seq fun K74 hK74 => ?_
 refine CW.block ?_
 refine CW.seq fun K75 hK75 => ?_
 refine CW.region ?_
 refine WR.batch 1 [(2, pt g2 0), (3, pt g12 0), (5, pt g59 0), (21, pt g12 0)] (by kernel_rfl) ?_
 have hb76 := ((((hb15.pure hc29).pure hc42).pure hc56).pure hc64).chg1 hc71 (by omega)
 refine WR.load (dst := some 22) (t := 54) (o := 0) hb76 (by kernel_rfl) (.int .u8 a1.Kind) (by kernel_rfl) ?_
 refine WR.batch 2 [(2, pt g2 0), (3, pt g12 0), (5, pt g59 0), (20, .bool (a1.Kind == (0 : Int)))] (by kernel_rfl) ?_
 refine WR.fin (by kernel_rfl) ?_
 refine go hK75 ?_
 refine CW.cond ((a1.Kind == (0 : Int))) (by kernel_rfl) (fun ht77 => ?_) (fun ht77 => ?_)
 ·
  have hs78 := ifT ht77 hs54
  replace ht77 : a1.Kind = (0 : Int) := (bEqT ht77)
  refine CW.seq fun K79 hK79 => ?_
  refine CW.region ?_
  refine WR.batch 1 [(4, .bool true)] (by kernel_rfl) ?_
  refine WR.fin (by kernel_rfl) ?_
  refine go hK79 ?_
  refine CW.ret ?_
  exact retV (.bool true) (by kernel_rfl) (⟨hC72, (congrArg (fun r : Bool => (.bool r : Value)) hs78).symm⟩)
 have hs80 := ifF ht77 hs54
 replace ht77 : a1.Kind ≠ (0 : Int) := (bEqF ht77)
 refine CW.seq fun K81 hK81 => ?_
 refine CW.seq fun K82 hK82 => ?_
 refine CW.region ?_
 refine WR.batch 1 [(2, pt g2 0), (3, pt g12 0), (5, pt g59 0), (25, pt g12 0)] (by kernel_rfl) ?_
 refine WR.load (dst := some 26) (t := 54) (o := 0) hb76 (by kernel_rfl) (.int .u8 a1.Kind) (by kernel_rfl) ?_
 refine WR.batch 2 [(2, pt g2 0), (3, pt g12 0), (5, pt g59 0), (24, .bool (a1.Kind == (4 : Int)))] (by kernel_rfl) ?_
 refine WR.fin (by kernel_rfl) ?_
 refine go hK82 ?_
 refine CW.join hK81 (fun F' w' => ∃ (v100 : Bool), F' = [(2, pt g2 0), (3, pt g12 0), (5, pt g59 0), (24, .bool v100)] ∧ Chg [] w w' ∧ Blk w' g2 #[.int .u8 a0.Kind, .int .u64 a0.In.Lo, .int .u64 a0.In.Hi] 56 ∧ Blk w' g12 #[.int .u8 a1.Kind, .int .u64 a1.In.Lo, .int .u64 a1.In.Hi] 56 ∧ Blk w' g59 #[.int .u64 x51.1.Lo, .int .u64 x51.1.Hi] 25 ∧ (kind_Within a0 a1) = kind_Within_J0 a0 a1 x25 x51 v100) ?_ ?_
 ·
  refine CW.cond ((a1.Kind == (4 : Int))) (by kernel_rfl) (fun ht89 => ?_) (fun ht89 => ?_)
  ·
   have hs90 := ifT ht89 hs80
   refine CW.keep [2, 3, 5, 24] (F' := [(2, pt g2 0), (3, pt g12 0), (5, pt g59 0), (24, .bool (a1.Kind == (4 : Int)))]) (by kernel_rfl) ?_
   refine CW.eqF (F' := [(2, pt g2 0), (3, pt g12 0), (5, pt g59 0), (24, .bool true)]) (by rw [ht89]) ?_
   have hk91 := ht89
   replace ht89 : a1.Kind = (4 : Int) := (bEqT ht89)
   refine CW.skip ?_
   have hb92 := ((hb50.pure hc56).pure hc64).chg1 hc71 (by omega)
   exact fun _ ha => ⟨_, ha.keep [2, 3, 5, 24] (F' := [(2, pt g2 0), (3, pt g12 0), (5, pt g59 0), (24, .bool true)]) (by kernel_rfl), true, rfl, hC72, hb92, hb76, hb70, hs90⟩
  have hs93 := ifF ht89 hs80
  replace ht89 : a1.Kind ≠ (4 : Int) := (bEqF ht89)
  refine CW.region ?_
  refine WR.batch 1 [(2, pt g2 0), (3, pt g12 0), (5, pt g59 0), (28, pt g12 0)] (by kernel_rfl) ?_
  refine WR.load (dst := some 29) (t := 54) (o := 0) hb76 (by kernel_rfl) (.int .u8 a1.Kind) (by kernel_rfl) ?_
  refine WR.batch 2 [(2, pt g2 0), (3, pt g12 0), (5, pt g59 0), (24, .bool (a1.Kind == (3 : Int)))] (by kernel_rfl) ?_
  refine WR.fin (by kernel_rfl) ?_
  have hb94 := ((hb50.pure hc56).pure hc64).chg1 hc71 (by omega)
  exact fun _ ha => ⟨_, ha.keep [2, 3, 5, 24] (F' := [(2, pt g2 0), (3, pt g12 0), (5, pt g59 0), (24, .bool (a1.Kind == (3 : Int)))]) (by kernel_rfl), (a1.Kind == (3 : Int)), rfl, hC72, hb94, hb76, hb70, hs93⟩
 rintro _ w85 ⟨v100, rfl, hC83, hb86, hb87, hb88, hsj84⟩
 have hz95 := hC83.size
 have hs96 := hsj84.trans (kind_Within_J0.eq_1 _ _ _ _ _)
 have hg97 := hb86.lt
 have hg98 := hb87.lt
 have hg99 := hb88.lt
 refine CW.cond (v100) (by kernel_rfl) (fun ht100 => ?_) (fun ht100 => ?_)
 ·
  have hs101 := ifT ht100 hs96
  refine CW.seq fun K102 hK102 => ?_
  refine CW.region ?_
  refine WR.load (dst := some 31) (t := 56) (o := 0) hb86 (by kernel_rfl) (.agg #[.int .u8 a0.Kind, .int .u64 a0.In.Lo, .int .u64 a0.In.Hi]) (by kernel_rfl) ?_
  refine WR.load (dst := some 32) (t := 56) (o := 0) hb87 (by kernel_rfl) (.agg #[.int .u8 a1.Kind, .int .u64 a1.In.Lo, .int .u64 a1.In.Hi]) (by kernel_rfl) ?_
  refine WR.valR (dst := some 33) (v := .bool ((a0.Kind == a1.Kind) && ((a0.In.Lo == a1.In.Lo) && (a0.In.Hi == a1.In.Hi)))) (w' := w85) (run_eqS (t := 56) (xs := #[.int .u8 a0.Kind, .int .u64 a0.In.Lo, .int .u64 a0.In.Hi]) (ys := #[.int .u8 a1.Kind, .int .u64 a1.In.Lo, .int .u64 a1.In.Hi]) (neg := false) (b := ((a0.Kind == a1.Kind) && ((a0.In.Lo == a1.In.Lo) && (a0.In.Hi == a1.In.Hi)))) (by kernel_rfl) (by kernel_rfl) (by kernel_rfl) w85) ?_
  refine WR.batch 1 [(4, .bool ((a0.Kind == a1.Kind) && ((a0.In.Lo == a1.In.Lo) && (a0.In.Hi == a1.In.Hi))))] (by kernel_rfl) ?_
  refine WR.fin (by kernel_rfl) ?_
  refine go hK102 ?_
  refine CW.ret ?_
  exact retV (.bool ((a0.Kind == a1.Kind) && ((a0.In.Lo == a1.In.Lo) && (a0.In.Hi == a1.In.Hi)))) (by kernel_rfl) (⟨hC83, (congrArg (fun r : Bool => (.bool r : Value)) hs101).symm⟩)
 have hs103 := ifF ht100 hs96
 refine CW.seq fun K104 hK104 => ?_
 refine CW.region ?_
 refine WR.batch 1 [(2, pt g2 0), (3, pt g12 0), (5, pt g59 0), (35, pt g12 0)] (by kernel_rfl) ?_
 refine WR.load (dst := some 36) (t := 54) (o := 0) hb87 (by kernel_rfl) (.int .u8 a1.Kind) (by kernel_rfl) ?_
 refine WR.batch 2 [(2, pt g2 0), (3, pt g12 0), (5, pt g59 0), (38, .bool (a1.Kind == (1 : Int)))] (by kernel_rfl) ?_
 refine WR.mergeW 8 [(2, pt g2 0), (3, pt g12 0), (5, pt g59 0), (42, .bool ((a1.Kind == (1 : Int)) && (a0.Kind == (4 : Int))))] (fun w' => Chg [] w85 w') (fun Q' => ?_) ?_
 ·
  cases hg105 : (a1.Kind == (1 : Int))
  ·
   have hk107 := hg105
   replace hg105 : a1.Kind ≠ (1 : Int) := (bEqF hg105)
   intro hM106
   refine WR.batch 4 [(2, pt g2 0), (3, pt g12 0), (5, pt g59 0), (42, .bool false)] (by kernel_rfl) ?_
   exact WR.keep [2, 3, 5, 42] (by kernel_rfl) (hM106 _ (Chg.refl [] w85))
  ·
   have hk108 := hg105
   replace hg105 : a1.Kind = (1 : Int) := (bEqT hg105)
   intro hM106
   refine WR.batch 1 [(2, pt g2 0), (3, pt g12 0), (5, pt g59 0), (38, .bool true), (39, pt g2 0)] (by kernel_rfl) ?_
   refine WR.load (dst := some 40) (t := 54) (o := 0) hb86 (by kernel_rfl) (.int .u8 a0.Kind) (by kernel_rfl) ?_
   refine WR.batch 2 [(2, pt g2 0), (3, pt g12 0), (5, pt g59 0), (42, .bool (a0.Kind == (4 : Int)))] (by kernel_rfl) ?_
   exact WR.keep [2, 3, 5, 42] (by kernel_rfl) (hM106 _ (Chg.refl [] w85))
 intro w109 hc110
 have hz112 := hc110.size
 have hC111 := hC83.pure hc110
 refine WR.batch 1 [(2, pt g2 0), (3, pt g12 0), (5, pt g59 0), (34, .bool ((a1.Kind == (1 : Int)) && (a0.Kind == (4 : Int))))] (by kernel_rfl) ?_
 refine WR.fin (by kernel_rfl) ?_
 refine go hK104 ?_
 refine CW.cond (((a1.Kind == (1 : Int)) && (a0.Kind == (4 : Int)))) (by kernel_rfl) (fun ht113 => ?_) (fun ht113 => ?_)
 ·
  have hs114 := ifT ht113 hs103
  replace ht113 : (a1.Kind = (1 : Int)) ∧ (a0.Kind = (4 : Int)) := ⟨(bEqT (bAndT ht113).1), (bEqT (bAndT ht113).2)⟩
  refine CW.seq fun K115 hK115 => ?_
  refine CW.region ?_
  have hb116 := hb88.pure hc110
  refine WR.load (dst := some 43) (t := 25) (o := 0) hb116 (by kernel_rfl) (.agg #[.int .u64 x51.1.Lo, .int .u64 x51.1.Hi]) (by kernel_rfl) ?_
  refine WR.batch 1 [(43, .agg #[.int .u64 x51.1.Lo, .int .u64 x51.1.Hi]), (44, pt g12 1)] (by kernel_rfl) ?_
  have hb117 := hb87.pure hc110
  refine WR.load (dst := some 45) (t := 25) (o := 1) hb117 (by kernel_rfl) (.agg #[.int .u64 a1.In.Lo, .int .u64 a1.In.Hi]) (by kernel_rfl) ?_
  obtain ⟨x118, hx119⟩ : ∃ x, span_Within x51.1 a1.In = x := ⟨_, rfl⟩
  have hs120 := letS hx119 hs114
  refine WR.call (dst := some 46) (by kernel_rfl) (retE (g := (fun r : Bool => (.bool r : Value))) hx119 (span_Within_any x51.1 a1.In w109  ⟨(by omega), (by omega)⟩ ⟨(by omega), (by omega)⟩ )) ?_
  rintro _ w121 hc122 rfl
  have hz124 := hc122.size
  have hC123 := hC111.pure hc122
  refine WR.batch 1 [(4, .bool x118)] (by kernel_rfl) ?_
  refine WR.fin (by kernel_rfl) ?_
  refine go hK115 ?_
  refine CW.ret ?_
  exact retV (.bool x118) (by kernel_rfl) (⟨hC123, (congrArg (fun r : Bool => (.bool r : Value)) hs120).symm⟩)
 have hs125 := ifF ht113 hs103
 replace ht113 : (a1.Kind ≠ (1 : Int)) ∨ (a0.Kind ≠ (4 : Int)) := (orMap (bAndF ht113) (fun h => (bEqF h)) (fun h => (bEqF h)))
 refine CW.skip ?_
 refine go hK74 ?_
 refine CW.seq fun K126 hK126 => ?_
 refine CW.region ?_
 refine WR.batch 1 [(2, pt g2 0), (3, pt g12 0), (47, pt g2 0)] (by kernel_rfl) ?_
 have hb127 := hb86.pure hc110
 refine WR.load (dst := some 48) (t := 54) (o := 0) hb127 (by kernel_rfl) (.int .u8 a0.Kind) (by kernel_rfl) ?_
 refine WR.batch 1 [(2, pt g2 0), (3, pt g12 0), (48, .int .u8 a0.Kind), (49, pt g12 0)] (by kernel_rfl) ?_
 have hb128 := hb87.pure hc110
 refine WR.load (dst := some 50) (t := 54) (o := 0) hb128 (by kernel_rfl) (.int .u8 a1.Kind) (by kernel_rfl) ?_
 refine WR.batch 2 [(2, pt g2 0), (3, pt g12 0), (52, .bool (a0.Kind == a1.Kind))] (by kernel_rfl) ?_
 refine WR.mergeW 12 [(58, .bool ((a0.Kind == a1.Kind) && (span_Within a0.In a1.In)))] (fun w' => Chg [] w109 w') (fun Q' => ?_) ?_
 ·
  cases hg129 : (a0.Kind == a1.Kind)
  ·
   have hk131 := hg129
   replace hg129 : a0.Kind ≠ a1.Kind := (bEqF hg129)
   intro hM130
   refine WR.batch 6 [(58, .bool false)] (by kernel_rfl) ?_
   exact WR.keep [58] (by kernel_rfl) (hM130 _ (Chg.refl [] w109))
  ·
   have hk132 := hg129
   replace hg129 : a0.Kind = a1.Kind := (bEqT hg129)
   intro hM130
   refine WR.batch 1 [(3, pt g12 0), (52, .bool true), (53, pt g2 1)] (by kernel_rfl) ?_
   refine WR.load (dst := some 54) (t := 25) (o := 1) hb127 (by kernel_rfl) (.agg #[.int .u64 a0.In.Lo, .int .u64 a0.In.Hi]) (by kernel_rfl) ?_
   refine WR.batch 1 [(52, .bool true), (54, .agg #[.int .u64 a0.In.Lo, .int .u64 a0.In.Hi]), (55, pt g12 1)] (by kernel_rfl) ?_
   refine WR.load (dst := some 56) (t := 25) (o := 1) hb128 (by kernel_rfl) (.agg #[.int .u64 a1.In.Lo, .int .u64 a1.In.Hi]) (by kernel_rfl) ?_
   refine WR.call (dst := some 57) (by kernel_rfl) (span_Within_any a0.In a1.In w109  ⟨(by omega), (by omega)⟩ ⟨(by omega), (by omega)⟩ ) ?_
   rintro _ w133 hc134 rfl
   have hz136 := hc134.size
   have hC135 := hC111.pure hc134
   refine WR.batch 1 [(58, .bool (span_Within a0.In a1.In))] (by kernel_rfl) ?_
   exact WR.keep [58] (by kernel_rfl) (hM130 _ ((Chg.refl [] w109).pure hc134))
 intro w137 hc138
 have hz140 := hc138.size
 have hC139 := hC111.pure hc138
 refine WR.batch 1 [(4, .bool ((a0.Kind == a1.Kind) && (span_Within a0.In a1.In)))] (by kernel_rfl) ?_
 refine WR.fin (by kernel_rfl) ?_
 refine go hK126 ?_
 refine CW.ret ?_
 exact retV (.bool ((a0.Kind == a1.Kind) && (span_Within a0.In a1.In))) (by kernel_rfl) (⟨hC139, (congrArg (fun r : Bool => (.bool r : Value)) hs125).symm⟩)

def kind_Join (a0 : TKnown) (a1 : TKnown)  : TKnown := (letF (kind_number a0) fun x34 => (letF (kind_number a1) fun x59 => (letF (kind_Right a0) fun x85 => (if ((!x85) || (!(kind_Right a1))) then (⟨(0 : Int), (⟨(0 : Int), (0 : Int)⟩ : TSpan)⟩ : TKnown) else (if ((a0.Kind == a1.Kind) && ((a0.In.Lo == a1.In.Lo) && (a0.In.Hi == a1.In.Hi))) then a0 else (if (x34.2 && x59.2) then (letF (span_Join x34.1 x59.1) fun x134 => (⟨(1 : Int), x134⟩ : TKnown)) else (if ((a0.Kind == (2 : Int)) && (a1.Kind == (2 : Int))) then (letF (span_Join a0.In a1.In) fun x163 => (⟨(2 : Int), x163⟩ : TKnown)) else (⟨(0 : Int), (⟨(0 : Int), (0 : Int)⟩ : TSpan)⟩ : TKnown))))))))

theorem kind_Join_ok (a0 : TKnown) (a1 : TKnown)  (_h_a0 : IU8 a0.Kind ∧ IU64 a0.In.Lo ∧ IU64 a0.In.Hi) (_h_a1 : IU8 a1.Kind ∧ IU64 a1.In.Lo ∧ IU64 a1.In.Hi)  : IU8 (kind_Join a0 a1).Kind ∧ IU64 (kind_Join a0 a1).In.Lo ∧ IU64 (kind_Join a0 a1).In.Hi := by
 rw [kind_Join.eq_1]
 refine letR (p := fun r : TKnown => IU8 r.Kind ∧ IU64 r.In.Lo ∧ IU64 r.In.Hi) fun x34 hx35 => ?_
 have hx36 : IU64 x34.1.Lo ∧ IU64 x34.1.Hi := by rw [← hx35]; exact kind_number_ok a0 ⟨(by omega), (by omega), (by omega)⟩ 
 refine letR (p := fun r : TKnown => IU8 r.Kind ∧ IU64 r.In.Lo ∧ IU64 r.In.Hi) fun x59 hx60 => ?_
 have hx61 : IU64 x59.1.Lo ∧ IU64 x59.1.Hi := by rw [← hx60]; exact kind_number_ok a1 ⟨(by omega), (by omega), (by omega)⟩ 
 refine letR (p := fun r : TKnown => IU8 r.Kind ∧ IU64 r.In.Lo ∧ IU64 r.In.Hi) fun x85 _ => ?_
 refine iteR (p := fun r : TKnown => IU8 r.Kind ∧ IU64 r.In.Lo ∧ IU64 r.In.Hi) (fun hi1001 => ?_) (fun hi1001 => ?_)
 ·
  replace hi1001 : (x85 = false) ∨ ((kind_Right a1) = false) := (orMap (bOrT hi1001) (fun h => (bNotT h)) (fun h => (bNotT h)))
  exact (by exact (show IU8 (0 : Int) ∧ IU64 (0 : Int) ∧ IU64 (0 : Int) from ⟨(by omega), (by omega), (by omega)⟩))
 replace hi1001 : (x85 = true) ∧ ((kind_Right a1) = true) := ⟨(bNotF (bOrF hi1001).1), (bNotF (bOrF hi1001).2)⟩
 refine iteR (p := fun r : TKnown => IU8 r.Kind ∧ IU64 r.In.Lo ∧ IU64 r.In.Hi) (fun hi1002 => ?_) (fun hi1002 => ?_)
 ·
  replace hi1002 : (a0.Kind = a1.Kind) ∧ ((a0.In.Lo = a1.In.Lo) ∧ (a0.In.Hi = a1.In.Hi)) := ⟨(bEqT (bAndT hi1002).1), ⟨(bEqT (bAndT (bAndT hi1002).2).1), (bEqT (bAndT (bAndT hi1002).2).2)⟩⟩
  exact (by exact (show IU8 a0.Kind ∧ IU64 a0.In.Lo ∧ IU64 a0.In.Hi from ⟨(by omega), (by omega), (by omega)⟩))
 replace hi1002 : (a0.Kind ≠ a1.Kind) ∨ ((a0.In.Lo ≠ a1.In.Lo) ∨ (a0.In.Hi ≠ a1.In.Hi)) := (orMap (bAndF hi1002) (fun h => (bEqF h)) (fun h => (orMap (bAndF h) (fun h => (bEqF h)) (fun h => (bEqF h)))))
 refine iteR (p := fun r : TKnown => IU8 r.Kind ∧ IU64 r.In.Lo ∧ IU64 r.In.Hi) (fun hi1003 => ?_) (fun hi1003 => ?_)
 ·
  replace hi1003 : (x34.2 = true) ∧ (x59.2 = true) := ⟨(bAndT hi1003).1, (bAndT hi1003).2⟩
  refine letR (p := fun r : TKnown => IU8 r.Kind ∧ IU64 r.In.Lo ∧ IU64 r.In.Hi) fun x134 hx135 => ?_
  have hx136 : IU64 x134.Lo ∧ IU64 x134.Hi := by rw [← hx135]; exact span_Join_ok x34.1 x59.1 ⟨(by omega), (by omega)⟩ ⟨(by omega), (by omega)⟩ 
  exact (by exact (show IU8 (1 : Int) ∧ IU64 x134.Lo ∧ IU64 x134.Hi from ⟨(by omega), (by omega), (by omega)⟩))
 replace hi1003 : (x34.2 = false) ∨ (x59.2 = false) := (orMap (bAndF hi1003) (fun h => h) (fun h => h))
 refine iteR (p := fun r : TKnown => IU8 r.Kind ∧ IU64 r.In.Lo ∧ IU64 r.In.Hi) (fun hi1004 => ?_) (fun hi1004 => ?_)
 ·
  replace hi1004 : (a0.Kind = (2 : Int)) ∧ (a1.Kind = (2 : Int)) := ⟨(bEqT (bAndT hi1004).1), (bEqT (bAndT hi1004).2)⟩
  refine letR (p := fun r : TKnown => IU8 r.Kind ∧ IU64 r.In.Lo ∧ IU64 r.In.Hi) fun x163 hx164 => ?_
  have hx165 : IU64 x163.Lo ∧ IU64 x163.Hi := by rw [← hx164]; exact span_Join_ok a0.In a1.In ⟨(by omega), (by omega)⟩ ⟨(by omega), (by omega)⟩ 
  exact (by exact (show IU8 (2 : Int) ∧ IU64 x163.Lo ∧ IU64 x163.Hi from ⟨(by omega), (by omega), (by omega)⟩))
 replace hi1004 : (a0.Kind ≠ (2 : Int)) ∨ (a1.Kind ≠ (2 : Int)) := (orMap (bAndF hi1004) (fun h => (bEqF h)) (fun h => (bEqF h)))
 exact (by exact (show IU8 (0 : Int) ∧ IU64 (0 : Int) ∧ IU64 (0 : Int) from ⟨(by omega), (by omega), (by omega)⟩))

set_option maxRecDepth 100000 in
set_option maxHeartbeats 4000000 in
theorem kind_Join_any (a0 : TKnown) (a1 : TKnown)   (w : World)  (_h_a0 : IU8 a0.Kind ∧ IU64 a0.In.Lo ∧ IU64 a0.In.Hi) (_h_a1 : IU8 a1.Kind ∧ IU64 a1.In.Lo ∧ IU64 a1.In.Hi)  : Calls Try.prog 46 #[.agg #[.int .u8 a0.Kind, .int .u64 a0.In.Lo, .int .u64 a0.In.Hi], .agg #[.int .u8 a1.Kind, .int .u64 a1.In.Lo, .int .u64 a1.In.Hi]] w (RetV w (TKnown.v (kind_Join a0 a1))) := by
 have hs := kind_Join.eq_1 a0 a1
 refine calls_of_CW Try.func46 rfl (n := 59) Try.ntmps46 (by kernel_rfl) [0, 1] (F := [(0, .agg #[.int .u8 a0.Kind, .int .u64 a0.In.Lo, .int .u64 a0.In.Hi]), (1, .agg #[.int .u8 a1.Kind, .int .u64 a1.In.Lo, .int .u64 a1.In.Hi])]) (by kernel_rfl) ?_
 refine CW.seq fun K1 hK1 => ?_
 refine CW.region ?_
 refine WR.box (dst := some 2) (e := 56) (v := .agg #[.int .u8 a0.Kind, .int .u64 a0.In.Lo, .int .u64 a0.In.Hi]) (by kernel_rfl) #[.int .u8 a0.Kind, .int .u64 a0.In.Lo, .int .u64 a0.In.Hi] (by kernel_rfl) ?_
 intro g2 w3 hN4
 have hf6 : w.heap.size ≤ g2 := hN4.fresh
 have hfr8 := hN4.fresh
 have hc7 := hN4.chg
 have hz10 := hc7.size
 have hC9 := (Chg.refl [] w).pure hc7
 have hb5 := hN4.blk
 have hg11 := hb5.lt
 refine WR.box (dst := some 3) (e := 56) (v := .agg #[.int .u8 a1.Kind, .int .u64 a1.In.Lo, .int .u64 a1.In.Hi]) (by kernel_rfl) #[.int .u8 a1.Kind, .int .u64 a1.In.Lo, .int .u64 a1.In.Hi] (by kernel_rfl) ?_
 intro g12 w13 hN14
 have hf16 : w.heap.size ≤ g12 := Nat.le_trans hC9.size hN14.fresh
 have hfr18 := hN14.fresh
 have hc17 := hN14.chg
 have hz20 := hc17.size
 have hC19 := hC9.pure hc17
 have hb15 := hN14.blk
 have hg21 := hb15.lt
 refine WR.alloc (dst := some 4) (e := 56) (by kernel_rfl) #[.int .u8 0, .int .u64 0, .int .u64 0] (by kernel_rfl) ?_
 intro g22 w23 hN24
 have hf26 : w.heap.size ≤ g22 := Nat.le_trans hC19.size hN24.fresh
 have hfr28 := hN24.fresh
 have hc27 := hN24.chg
 have hz30 := hc27.size
 have hC29 := hC19.pure hc27
 have hb25 := hN24.blk
 have hg31 := hb25.lt
 refine WR.fin (by kernel_rfl) ?_
 refine go hK1 ?_
 refine CW.seq fun K32 hK32 => ?_
 refine CW.region ?_
 have hb33 := (hb5.pure hc17).pure hc27
 refine WR.load (dst := some 10) (t := 56) (o := 0) hb33 (by kernel_rfl) (.agg #[.int .u8 a0.Kind, .int .u64 a0.In.Lo, .int .u64 a0.In.Hi]) (by kernel_rfl) ?_
 obtain ⟨x34, hx35⟩ : ∃ x, kind_number a0 = x := ⟨_, rfl⟩
 have hs37 := letS hx35 hs
 have hx36 : IU64 x34.1.Lo ∧ IU64 x34.1.Hi := by rw [← hx35]; exact kind_number_ok a0 ⟨(by omega), (by omega), (by omega)⟩ 
 refine WR.call (dst := some 11) (by kernel_rfl) (retE (g := (fun r : (TSpan × Bool) => (.tuple #[TSpan.v r.1, .bool r.2] : Value))) hx35 (kind_number_any a0 w23  ⟨(by omega), (by omega), (by omega)⟩ )) ?_
 rintro _ w38 hc39 rfl
 have hz41 := hc39.size
 have hC40 := hC29.pure hc39
 refine WR.batch 3 [(2, pt g2 0), (3, pt g12 0), (4, pt g22 0), (12, .agg #[.int .u64 x34.1.Lo, .int .u64 x34.1.Hi]), (13, .bool x34.2)] (by kernel_rfl) ?_
 refine WR.alloc (dst := some 5) (e := 25) (by kernel_rfl) #[.int .u64 0, .int .u64 0] (by kernel_rfl) ?_
 intro g42 w43 hN44
 have hf46 : w.heap.size ≤ g42 := Nat.le_trans hC40.size hN44.fresh
 have hfr48 := hN44.fresh
 have hc47 := hN44.chg
 have hz50 := hc47.size
 have hC49 := hC40.pure hc47
 have hb45 := hN44.blk
 have hg51 := hb45.lt
 refine WR.store (t := 25) (o := 0) (v := .agg #[.int .u64 x34.1.Lo, .int .u64 x34.1.Hi]) hb45 (by kernel_rfl) #[.int .u64 x34.1.Lo, .int .u64 x34.1.Hi] (by kernel_rfl) ?_
 intro w52 hb53 hc54
 have hz56 := hc54.size
 have hC55 := hC49.step1 hc54 (by omega)
 refine WR.batch 1 [(2, pt g2 0), (3, pt g12 0), (4, pt g22 0), (5, pt g42 0), (6, .bool x34.2)] (by kernel_rfl) ?_
 refine WR.fin (by kernel_rfl) ?_
 refine go hK32 ?_
 refine CW.seq fun K57 hK57 => ?_
 refine CW.region ?_
 have hb58 := (((hb15.pure hc27).pure hc39).pure hc47).chg1 hc54 (by omega)
 refine WR.load (dst := some 15) (t := 56) (o := 0) hb58 (by kernel_rfl) (.agg #[.int .u8 a1.Kind, .int .u64 a1.In.Lo, .int .u64 a1.In.Hi]) (by kernel_rfl) ?_
 obtain ⟨x59, hx60⟩ : ∃ x, kind_number a1 = x := ⟨_, rfl⟩
 have hs62 := letS hx60 hs37
 have hx61 : IU64 x59.1.Lo ∧ IU64 x59.1.Hi := by rw [← hx60]; exact kind_number_ok a1 ⟨(by omega), (by omega), (by omega)⟩ 
 refine WR.call (dst := some 16) (by kernel_rfl) (retE (g := (fun r : (TSpan × Bool) => (.tuple #[TSpan.v r.1, .bool r.2] : Value))) hx60 (kind_number_any a1 w52  ⟨(by omega), (by omega), (by omega)⟩ )) ?_
 rintro _ w63 hc64 rfl
 have hz66 := hc64.size
 have hC65 := hC55.pure hc64
 refine WR.batch 3 [(2, pt g2 0), (3, pt g12 0), (4, pt g22 0), (5, pt g42 0), (6, .bool x34.2), (17, .agg #[.int .u64 x59.1.Lo, .int .u64 x59.1.Hi]), (18, .bool x59.2)] (by kernel_rfl) ?_
 refine WR.alloc (dst := some 7) (e := 25) (by kernel_rfl) #[.int .u64 0, .int .u64 0] (by kernel_rfl) ?_
 intro g67 w68 hN69
 have hf71 : w.heap.size ≤ g67 := Nat.le_trans hC65.size hN69.fresh
 have hfr73 := hN69.fresh
 have hc72 := hN69.chg
 have hz75 := hc72.size
 have hC74 := hC65.pure hc72
 have hb70 := hN69.blk
 have hg76 := hb70.lt
 refine WR.store (t := 25) (o := 0) (v := .agg #[.int .u64 x59.1.Lo, .int .u64 x59.1.Hi]) hb70 (by kernel_rfl) #[.int .u64 x59.1.Lo, .int .u64 x59.1.Hi] (by kernel_rfl) ?_
 intro w77 hb78 hc79
 have hz81 := hc79.size
 have hC80 := hC74.step1 hc79 (by omega)
 refine WR.batch 1 [(2, pt g2 0), (3, pt g12 0), (4, pt g22 0), (5, pt g42 0), (6, .bool x34.2), (7, pt g67 0), (8, .bool x59.2)] (by kernel_rfl) ?_
 refine WR.fin (by kernel_rfl) ?_
 refine go hK57 ?_
 refine CW.seq fun K82 hK82 => ?_
 refine CW.block ?_
 refine CW.seq fun K83 hK83 => ?_
 refine CW.region ?_
 have hb84 := (((((hb33.pure hc39).pure hc47).chg1 hc54 (by omega)).pure hc64).pure hc72).chg1 hc79 (by omega)
 refine WR.load (dst := some 20) (t := 56) (o := 0) hb84 (by kernel_rfl) (.agg #[.int .u8 a0.Kind, .int .u64 a0.In.Lo, .int .u64 a0.In.Hi]) (by kernel_rfl) ?_
 obtain ⟨x85, hx86⟩ : ∃ x, kind_Right a0 = x := ⟨_, rfl⟩
 have hs87 := letS hx86 hs62
 refine WR.call (dst := some 21) (by kernel_rfl) (retE (g := (fun r : Bool => (.bool r : Value))) hx86 (kind_Right_any a0 w77  ⟨(by omega), (by omega), (by omega)⟩ )) ?_
 rintro _ w88 hc89 rfl
 have hz91 := hc89.size
 have hC90 := hC80.pure hc89
 refine WR.batch 2 [(2, pt g2 0), (3, pt g12 0), (4, pt g22 0), (5, pt g42 0), (6, .bool x34.2), (7, pt g67 0), (8, .bool x59.2), (23, .bool (!x85))] (by kernel_rfl) ?_
 refine WR.mergeW 8 [(2, pt g2 0), (3, pt g12 0), (4, pt g22 0), (5, pt g42 0), (6, .bool x34.2), (7, pt g67 0), (8, .bool x59.2), (27, .bool ((!x85) || (!(kind_Right a1))))] (fun w' => Chg [] w88 w') (fun Q' => ?_) ?_
 ·
  cases hg92 : (!x85)
  ·
   have hk94 := hg92
   replace hg92 : x85 = true := (bNotF hg92)
   intro hM93
   have hb95 := (((hb58.pure hc64).pure hc72).chg1 hc79 (by omega)).pure hc89
   refine WR.load (dst := some 24) (t := 56) (o := 0) hb95 (by kernel_rfl) (.agg #[.int .u8 a1.Kind, .int .u64 a1.In.Lo, .int .u64 a1.In.Hi]) (by kernel_rfl) ?_
   refine WR.call (dst := some 25) (by kernel_rfl) (kind_Right_any a1 w88  ⟨(by omega), (by omega), (by omega)⟩ ) ?_
   rintro _ w96 hc97 rfl
   have hz99 := hc97.size
   have hC98 := hC90.pure hc97
   refine WR.batch 2 [(2, pt g2 0), (3, pt g12 0), (4, pt g22 0), (5, pt g42 0), (6, .bool x34.2), (7, pt g67 0), (8, .bool x59.2), (27, .bool (!(kind_Right a1)))] (by kernel_rfl) ?_
   exact WR.keep [2, 3, 4, 5, 6, 7, 8, 27] (by kernel_rfl) (hM93 _ ((Chg.refl [] w88).pure hc97))
  ·
   have hk100 := hg92
   replace hg92 : x85 = false := (bNotT hg92)
   intro hM93
   refine WR.batch 4 [(2, pt g2 0), (3, pt g12 0), (4, pt g22 0), (5, pt g42 0), (6, .bool x34.2), (7, pt g67 0), (8, .bool x59.2), (27, .bool true)] (by kernel_rfl) ?_
   exact WR.keep [2, 3, 4, 5, 6, 7, 8, 27] (by kernel_rfl) (hM93 _ (Chg.refl [] w88))
 intro w101 hc102
 have hz104 := hc102.size
 have hC103 := hC90.pure hc102
 refine WR.batch 1 [(2, pt g2 0), (3, pt g12 0), (4, pt g22 0), (5, pt g42 0), (6, .bool x34.2), (7, pt g67 0), (8, .bool x59.2), (19, .bool ((!x85) || (!(kind_Right a1))))] (by kernel_rfl) ?_
 refine WR.fin (by kernel_rfl) ?_
 refine go hK83 ?_
 refine CW.cond (((!x85) || (!(kind_Right a1)))) (by kernel_rfl) (fun ht105 => ?_) (fun ht105 => ?_)
 ·
  have hs106 := ifT ht105 hs87
  replace ht105 : (x85 = false) ∨ ((kind_Right a1) = false) := (orMap (bOrT ht105) (fun h => (bNotT h)) (fun h => (bNotT h)))
  refine CW.seq fun K107 hK107 => ?_
  refine CW.region ?_
  refine WR.batch 1 [(4, pt g22 0), (28, .agg #[.int .u8 0, .int .u64 0, .int .u64 0])] (by kernel_rfl) ?_
  have hb111 := (((((((hb25.pure hc39).pure hc47).chg1 hc54 (by omega)).pure hc64).pure hc72).chg1 hc79 (by omega)).pure hc89).pure hc102
  refine WR.store (t := 56) (o := 0) (v := .agg #[.int .u8 0, .int .u64 0, .int .u64 0]) hb111 (by kernel_rfl) #[.int .u8 0, .int .u64 0, .int .u64 0] (by kernel_rfl) ?_
  intro w108 hb109 hc110
  have hz113 := hc110.size
  have hC112 := hC103.step1 hc110 (by omega)
  refine WR.fin (by kernel_rfl) ?_
  refine go hK107 ?_
  refine CW.ret ?_
  exact retC [.agg #[.int .u8 0, .int .u64 0, .int .u64 0]] _ rfl ⟨resCell hb109 rfl (by kernel_rfl), trivial⟩ (⟨hC112, (congrArg TKnown.v hs106).symm⟩)
 have hs114 := ifF ht105 hs87
 replace ht105 : (x85 = true) ∧ ((kind_Right a1) = true) := ⟨(bNotF (bOrF ht105).1), (bNotF (bOrF ht105).2)⟩
 refine CW.seq fun K115 hK115 => ?_
 refine CW.region ?_
 have hb116 := (hb84.pure hc89).pure hc102
 refine WR.load (dst := some 30) (t := 56) (o := 0) hb116 (by kernel_rfl) (.agg #[.int .u8 a0.Kind, .int .u64 a0.In.Lo, .int .u64 a0.In.Hi]) (by kernel_rfl) ?_
 have hb117 := ((((hb58.pure hc64).pure hc72).chg1 hc79 (by omega)).pure hc89).pure hc102
 refine WR.load (dst := some 31) (t := 56) (o := 0) hb117 (by kernel_rfl) (.agg #[.int .u8 a1.Kind, .int .u64 a1.In.Lo, .int .u64 a1.In.Hi]) (by kernel_rfl) ?_
 refine WR.valR (dst := some 32) (v := .bool ((a0.Kind == a1.Kind) && ((a0.In.Lo == a1.In.Lo) && (a0.In.Hi == a1.In.Hi)))) (w' := w101) (run_eqS (t := 56) (xs := #[.int .u8 a0.Kind, .int .u64 a0.In.Lo, .int .u64 a0.In.Hi]) (ys := #[.int .u8 a1.Kind, .int .u64 a1.In.Lo, .int .u64 a1.In.Hi]) (neg := false) (b := ((a0.Kind == a1.Kind) && ((a0.In.Lo == a1.In.Lo) && (a0.In.Hi == a1.In.Hi)))) (by kernel_rfl) (by kernel_rfl) (by kernel_rfl) w101) ?_
 refine WR.batch 1 [(2, pt g2 0), (3, pt g12 0), (4, pt g22 0), (5, pt g42 0), (6, .bool x34.2), (7, pt g67 0), (8, .bool x59.2), (29, .bool ((a0.Kind == a1.Kind) && ((a0.In.Lo == a1.In.Lo) && (a0.In.Hi == a1.In.Hi))))] (by kernel_rfl) ?_
 refine WR.fin (by kernel_rfl) ?_
 refine go hK115 ?_
 refine CW.cond (((a0.Kind == a1.Kind) && ((a0.In.Lo == a1.In.Lo) && (a0.In.Hi == a1.In.Hi)))) (by kernel_rfl) (fun ht118 => ?_) (fun ht118 => ?_)
 ·
  have hs119 := ifT ht118 hs114
  replace ht118 : (a0.Kind = a1.Kind) ∧ ((a0.In.Lo = a1.In.Lo) ∧ (a0.In.Hi = a1.In.Hi)) := ⟨(bEqT (bAndT ht118).1), ⟨(bEqT (bAndT (bAndT ht118).2).1), (bEqT (bAndT (bAndT ht118).2).2)⟩⟩
  refine CW.seq fun K120 hK120 => ?_
  refine CW.region ?_
  refine WR.load (dst := some 33) (t := 56) (o := 0) hb116 (by kernel_rfl) (.agg #[.int .u8 a0.Kind, .int .u64 a0.In.Lo, .int .u64 a0.In.Hi]) (by kernel_rfl) ?_
  have hb124 := (((((((hb25.pure hc39).pure hc47).chg1 hc54 (by omega)).pure hc64).pure hc72).chg1 hc79 (by omega)).pure hc89).pure hc102
  refine WR.store (t := 56) (o := 0) (v := .agg #[.int .u8 a0.Kind, .int .u64 a0.In.Lo, .int .u64 a0.In.Hi]) hb124 (by kernel_rfl) #[.int .u8 a0.Kind, .int .u64 a0.In.Lo, .int .u64 a0.In.Hi] (by kernel_rfl) ?_
  intro w121 hb122 hc123
  have hz126 := hc123.size
  have hC125 := hC103.step1 hc123 (by omega)
  refine WR.fin (by kernel_rfl) ?_
  refine go hK120 ?_
  refine CW.ret ?_
  exact retC [.agg #[.int .u8 a0.Kind, .int .u64 a0.In.Lo, .int .u64 a0.In.Hi]] _ rfl ⟨resCell hb122 rfl (by kernel_rfl), trivial⟩ (⟨hC125, (congrArg TKnown.v hs119).symm⟩)
 have hs127 := ifF ht118 hs114
 replace ht118 : (a0.Kind ≠ a1.Kind) ∨ ((a0.In.Lo ≠ a1.In.Lo) ∨ (a0.In.Hi ≠ a1.In.Hi)) := (orMap (bAndF ht118) (fun h => (bEqF h)) (fun h => (orMap (bAndF h) (fun h => (bEqF h)) (fun h => (bEqF h)))))
 refine CW.seq fun K128 hK128 => ?_
 refine CW.region ?_
 refine WR.batch 2 [(2, pt g2 0), (3, pt g12 0), (4, pt g22 0), (5, pt g42 0), (7, pt g67 0), (8, .bool x59.2), (36, .bool x34.2)] (by kernel_rfl) ?_
 refine WR.batch 2 [(2, pt g2 0), (3, pt g12 0), (4, pt g22 0), (5, pt g42 0), (7, pt g67 0), (38, .bool (x34.2 && x59.2))] (by generalize x34.2 = b; cases b <;> kernel_rfl) ?_
 refine WR.batch 1 [(2, pt g2 0), (3, pt g12 0), (4, pt g22 0), (5, pt g42 0), (7, pt g67 0), (34, .bool (x34.2 && x59.2))] (by kernel_rfl) ?_
 refine WR.fin (by kernel_rfl) ?_
 refine go hK128 ?_
 refine CW.cond ((x34.2 && x59.2)) (by kernel_rfl) (fun ht129 => ?_) (fun ht129 => ?_)
 ·
  have hs130 := ifT ht129 hs127
  replace ht129 : (x34.2 = true) ∧ (x59.2 = true) := ⟨(bAndT ht129).1, (bAndT ht129).2⟩
  refine CW.seq fun K131 hK131 => ?_
  refine CW.region ?_
  have hb132 := ((((hb53.pure hc64).pure hc72).chg1 hc79 (by omega)).pure hc89).pure hc102
  refine WR.load (dst := some 39) (t := 25) (o := 0) hb132 (by kernel_rfl) (.agg #[.int .u64 x34.1.Lo, .int .u64 x34.1.Hi]) (by kernel_rfl) ?_
  have hb133 := (hb78.pure hc89).pure hc102
  refine WR.load (dst := some 40) (t := 25) (o := 0) hb133 (by kernel_rfl) (.agg #[.int .u64 x59.1.Lo, .int .u64 x59.1.Hi]) (by kernel_rfl) ?_
  obtain ⟨x134, hx135⟩ : ∃ x, span_Join x34.1 x59.1 = x := ⟨_, rfl⟩
  have hs137 := letS hx135 hs130
  have hx136 : IU64 x134.Lo ∧ IU64 x134.Hi := by rw [← hx135]; exact span_Join_ok x34.1 x59.1 ⟨(by omega), (by omega)⟩ ⟨(by omega), (by omega)⟩ 
  refine WR.call (dst := some 41) (by kernel_rfl) (retE (g := TSpan.v) hx135 (span_Join_any x34.1 x59.1 w101  ⟨(by omega), (by omega)⟩ ⟨(by omega), (by omega)⟩ )) ?_
  rintro _ w138 hc139 rfl
  have hz141 := hc139.size
  have hC140 := hC103.pure hc139
  refine WR.batch 1 [(4, pt g22 0), (42, .agg #[.int .u8 1, .int .u64 x134.Lo, .int .u64 x134.Hi])] (by kernel_rfl) ?_
  have hb145 := ((((((((hb25.pure hc39).pure hc47).chg1 hc54 (by omega)).pure hc64).pure hc72).chg1 hc79 (by omega)).pure hc89).pure hc102).pure hc139
  refine WR.store (t := 56) (o := 0) (v := .agg #[.int .u8 1, .int .u64 x134.Lo, .int .u64 x134.Hi]) hb145 (by kernel_rfl) #[.int .u8 1, .int .u64 x134.Lo, .int .u64 x134.Hi] (by kernel_rfl) ?_
  intro w142 hb143 hc144
  have hz147 := hc144.size
  have hC146 := hC140.step1 hc144 (by omega)
  refine WR.fin (by kernel_rfl) ?_
  refine go hK131 ?_
  refine CW.ret ?_
  exact retC [.agg #[.int .u8 1, .int .u64 x134.Lo, .int .u64 x134.Hi]] _ rfl ⟨resCell hb143 rfl (by kernel_rfl), trivial⟩ (⟨hC146, (congrArg TKnown.v hs137).symm⟩)
 have hs148 := ifF ht129 hs127
 replace ht129 : (x34.2 = false) ∨ (x59.2 = false) := (orMap (bAndF ht129) (fun h => h) (fun h => h))
 refine CW.seq fun K149 hK149 => ?_
 refine CW.region ?_
 refine WR.batch 1 [(2, pt g2 0), (3, pt g12 0), (4, pt g22 0), (44, pt g2 0)] (by kernel_rfl) ?_
 refine WR.load (dst := some 45) (t := 54) (o := 0) hb116 (by kernel_rfl) (.int .u8 a0.Kind) (by kernel_rfl) ?_
 refine WR.batch 2 [(2, pt g2 0), (3, pt g12 0), (4, pt g22 0), (47, .bool (a0.Kind == (2 : Int)))] (by kernel_rfl) ?_
 refine WR.mergeW 8 [(2, pt g2 0), (3, pt g12 0), (4, pt g22 0), (51, .bool ((a0.Kind == (2 : Int)) && (a1.Kind == (2 : Int))))] (fun w' => Chg [] w101 w') (fun Q' => ?_) ?_
 ·
  cases hg150 : (a0.Kind == (2 : Int))
  ·
   have hk152 := hg150
   replace hg150 : a0.Kind ≠ (2 : Int) := (bEqF hg150)
   intro hM151
   refine WR.batch 4 [(2, pt g2 0), (3, pt g12 0), (4, pt g22 0), (51, .bool false)] (by kernel_rfl) ?_
   exact WR.keep [2, 3, 4, 51] (by kernel_rfl) (hM151 _ (Chg.refl [] w101))
  ·
   have hk153 := hg150
   replace hg150 : a0.Kind = (2 : Int) := (bEqT hg150)
   intro hM151
   refine WR.batch 1 [(2, pt g2 0), (3, pt g12 0), (4, pt g22 0), (47, .bool true), (48, pt g12 0)] (by kernel_rfl) ?_
   refine WR.load (dst := some 49) (t := 54) (o := 0) hb117 (by kernel_rfl) (.int .u8 a1.Kind) (by kernel_rfl) ?_
   refine WR.batch 2 [(2, pt g2 0), (3, pt g12 0), (4, pt g22 0), (51, .bool (a1.Kind == (2 : Int)))] (by kernel_rfl) ?_
   exact WR.keep [2, 3, 4, 51] (by kernel_rfl) (hM151 _ (Chg.refl [] w101))
 intro w154 hc155
 have hz157 := hc155.size
 have hC156 := hC103.pure hc155
 refine WR.batch 1 [(2, pt g2 0), (3, pt g12 0), (4, pt g22 0), (43, .bool ((a0.Kind == (2 : Int)) && (a1.Kind == (2 : Int))))] (by kernel_rfl) ?_
 refine WR.fin (by kernel_rfl) ?_
 refine go hK149 ?_
 refine CW.cond (((a0.Kind == (2 : Int)) && (a1.Kind == (2 : Int)))) (by kernel_rfl) (fun ht158 => ?_) (fun ht158 => ?_)
 ·
  have hs159 := ifT ht158 hs148
  replace ht158 : (a0.Kind = (2 : Int)) ∧ (a1.Kind = (2 : Int)) := ⟨(bEqT (bAndT ht158).1), (bEqT (bAndT ht158).2)⟩
  refine CW.seq fun K160 hK160 => ?_
  refine CW.region ?_
  refine WR.batch 1 [(3, pt g12 0), (4, pt g22 0), (52, pt g2 1)] (by kernel_rfl) ?_
  have hb161 := hb116.pure hc155
  refine WR.load (dst := some 53) (t := 25) (o := 1) hb161 (by kernel_rfl) (.agg #[.int .u64 a0.In.Lo, .int .u64 a0.In.Hi]) (by kernel_rfl) ?_
  refine WR.batch 1 [(4, pt g22 0), (53, .agg #[.int .u64 a0.In.Lo, .int .u64 a0.In.Hi]), (54, pt g12 1)] (by kernel_rfl) ?_
  have hb162 := hb117.pure hc155
  refine WR.load (dst := some 55) (t := 25) (o := 1) hb162 (by kernel_rfl) (.agg #[.int .u64 a1.In.Lo, .int .u64 a1.In.Hi]) (by kernel_rfl) ?_
  obtain ⟨x163, hx164⟩ : ∃ x, span_Join a0.In a1.In = x := ⟨_, rfl⟩
  have hs166 := letS hx164 hs159
  have hx165 : IU64 x163.Lo ∧ IU64 x163.Hi := by rw [← hx164]; exact span_Join_ok a0.In a1.In ⟨(by omega), (by omega)⟩ ⟨(by omega), (by omega)⟩ 
  refine WR.call (dst := some 56) (by kernel_rfl) (retE (g := TSpan.v) hx164 (span_Join_any a0.In a1.In w154  ⟨(by omega), (by omega)⟩ ⟨(by omega), (by omega)⟩ )) ?_
  rintro _ w167 hc168 rfl
  have hz170 := hc168.size
  have hC169 := hC156.pure hc168
  refine WR.batch 1 [(4, pt g22 0), (57, .agg #[.int .u8 2, .int .u64 x163.Lo, .int .u64 x163.Hi])] (by kernel_rfl) ?_
  have hb174 := (((((((((hb25.pure hc39).pure hc47).chg1 hc54 (by omega)).pure hc64).pure hc72).chg1 hc79 (by omega)).pure hc89).pure hc102).pure hc155).pure hc168
  refine WR.store (t := 56) (o := 0) (v := .agg #[.int .u8 2, .int .u64 x163.Lo, .int .u64 x163.Hi]) hb174 (by kernel_rfl) #[.int .u8 2, .int .u64 x163.Lo, .int .u64 x163.Hi] (by kernel_rfl) ?_
  intro w171 hb172 hc173
  have hz176 := hc173.size
  have hC175 := hC169.step1 hc173 (by omega)
  refine WR.fin (by kernel_rfl) ?_
  refine go hK160 ?_
  refine CW.ret ?_
  exact retC [.agg #[.int .u8 2, .int .u64 x163.Lo, .int .u64 x163.Hi]] _ rfl ⟨resCell hb172 rfl (by kernel_rfl), trivial⟩ (⟨hC175, (congrArg TKnown.v hs166).symm⟩)
 have hs177 := ifF ht158 hs148
 replace ht158 : (a0.Kind ≠ (2 : Int)) ∨ (a1.Kind ≠ (2 : Int)) := (orMap (bAndF ht158) (fun h => (bEqF h)) (fun h => (bEqF h)))
 refine CW.skip ?_
 refine go hK82 ?_
 refine CW.seq fun K178 hK178 => ?_
 refine CW.region ?_
 refine WR.batch 1 [(4, pt g22 0), (58, .agg #[.int .u8 0, .int .u64 0, .int .u64 0])] (by kernel_rfl) ?_
 have hb182 := ((((((((hb25.pure hc39).pure hc47).chg1 hc54 (by omega)).pure hc64).pure hc72).chg1 hc79 (by omega)).pure hc89).pure hc102).pure hc155
 refine WR.store (t := 56) (o := 0) (v := .agg #[.int .u8 0, .int .u64 0, .int .u64 0]) hb182 (by kernel_rfl) #[.int .u8 0, .int .u64 0, .int .u64 0] (by kernel_rfl) ?_
 intro w179 hb180 hc181
 have hz184 := hc181.size
 have hC183 := hC156.step1 hc181 (by omega)
 refine WR.fin (by kernel_rfl) ?_
 refine go hK178 ?_
 refine CW.ret ?_
 exact retC [.agg #[.int .u8 0, .int .u64 0, .int .u64 0]] _ rfl ⟨resCell hb180 rfl (by kernel_rfl), trivial⟩ (⟨hC183, (congrArg TKnown.v hs177).symm⟩)

def kind_nought (a0 : TSpan) (a1 : Bool)  : Bool := (letF (span_Has a0 (0 : Int)) fun x13 => (x13 || (a1 && (!(span_Within a0 (span_All true))))))

theorem kind_nought_any (a0 : TSpan) (a1 : Bool)   (w : World)  (_h_a0 : IU64 a0.Lo ∧ IU64 a0.Hi)  : Calls Try.prog 65 #[.agg #[.int .u64 a0.Lo, .int .u64 a0.Hi], .bool a1] w (RetV w (.bool (kind_nought a0 a1))) := by
 have hs := kind_nought.eq_1 a0 a1
 refine calls_of_CW Try.func65 rfl (n := 16) Try.ntmps65 (by kernel_rfl) [0, 1] (F := [(0, .agg #[.int .u64 a0.Lo, .int .u64 a0.Hi]), (1, .bool a1)]) (by kernel_rfl) ?_
 refine CW.seq fun K1 hK1 => ?_
 refine CW.region ?_
 refine WR.box (dst := some 2) (e := 25) (v := .agg #[.int .u64 a0.Lo, .int .u64 a0.Hi]) (by kernel_rfl) #[.int .u64 a0.Lo, .int .u64 a0.Hi] (by kernel_rfl) ?_
 intro g2 w3 hN4
 have hf6 : w.heap.size ≤ g2 := hN4.fresh
 have hfr8 := hN4.fresh
 have hc7 := hN4.chg
 have hz10 := hc7.size
 have hC9 := (Chg.refl [] w).pure hc7
 have hb5 := hN4.blk
 have hg11 := hb5.lt
 refine WR.batch 1 [(1, .bool a1), (2, pt g2 0)] (by kernel_rfl) ?_
 refine WR.fin (by kernel_rfl) ?_
 refine go hK1 ?_
 refine CW.seq fun K12 hK12 => ?_
 refine CW.regionQ (by kernel_rfl) (by kernel_rfl) ?_
 refine WQ.load (dst := some 5) (t := 25) (o := 0) (fun _ hq => hb5.pure hq) (by kernel_rfl) (.agg #[.int .u64 a0.Lo, .int .u64 a0.Hi]) (by kernel_rfl) ?_
 obtain ⟨x13, hx14⟩ : ∃ x, span_Has a0 (0 : Int) = x := ⟨_, rfl⟩
 have hs15 := letS hx14 hs
 refine WQ.call (dst := some 6) (.bool x13) (fun _ => by kernel_rfl) (fun _ _ h h' => h.pure h') (fun wq hq => retE (g := (fun r : Bool => (.bool r : Value))) hx14 (span_Has_any a0 (0 : Int) wq  ⟨(by omega), (by omega)⟩ (by omega) )) ?_
 refine WQ.val (dst := some 7) (.bool x13) (fun _ => by kernel_rfl) ?_
 refine WQ.merge 11 [(15, .bool (x13 || (a1 && (!(span_Within a0 (span_All true))))))] (fun Q' => ?_) ?_
 ·
  cases hg16 : x13
  ·
   have hk18 := hg16
   intro hM17
   refine WQ.val (dst := some 8) (.bool a1) (fun _ => by kernel_rfl) ?_
   refine WQ.val (dst := some 9) (.bool a1) (fun _ => by kernel_rfl) ?_
   refine WQ.merge 10 [(7, .bool false), (14, .bool (a1 && (!(span_Within a0 (span_All true)))))] (fun Q' => ?_) ?_
   ·
    cases hg19 : a1
    ·
     have hk21 := hg19
     intro hM20
     refine WQ.pass1 (dst := some 10) (by kernel_rfl) ?_
     refine WQ.pass1 (dst := some 11) (by kernel_rfl) ?_
     refine WQ.pass1 (dst := some 12) (by kernel_rfl) ?_
     refine WQ.pass1 (dst := some 13) (by kernel_rfl) ?_
     refine WQ.val (dst := some 14) (.bool false) (fun _ => by kernel_rfl) ?_
     exact WQ.keep [7, 14] (by kernel_rfl) hM20
    ·
     have hk22 := hg19
     intro hM20
     refine WQ.load (dst := some 10) (t := 25) (o := 0) (fun _ hq => hb5.pure hq) (by kernel_rfl) (.agg #[.int .u64 a0.Lo, .int .u64 a0.Hi]) (by kernel_rfl) ?_
     have hx23 : IU64 (span_All true).Lo ∧ IU64 (span_All true).Hi := span_All_ok true 
     refine WQ.call (dst := some 11) (.agg #[.int .u64 (span_All true).Lo, .int .u64 (span_All true).Hi]) (fun _ => by kernel_rfl) (fun _ _ h h' => h.pure h') (fun wq hq => span_All_any true wq  ) ?_
     refine WQ.call (dst := some 12) (.bool (span_Within a0 (span_All true))) (fun _ => by kernel_rfl) (fun _ _ h h' => h.pure h') (fun wq hq => span_Within_any a0 (span_All true) wq  ⟨(by omega), (by omega)⟩ ⟨(by omega), (by omega)⟩ ) ?_
     refine WQ.val (dst := some 13) (.bool (!(span_Within a0 (span_All true)))) (fun _ => by kernel_rfl) ?_
     refine WQ.val (dst := some 14) (.bool (!(span_Within a0 (span_All true)))) (fun _ => by kernel_rfl) ?_
     exact WQ.keep [7, 14] (by kernel_rfl) hM20
   have hx24 : IU64 (span_All true).Lo ∧ IU64 (span_All true).Hi := span_All_ok true 
   refine WQ.val (dst := some 15) (.bool (a1 && (!(span_Within a0 (span_All true))))) (fun _ => by kernel_rfl) ?_
   exact WQ.keep [15] (by kernel_rfl) hM17
  ·
   have hk25 := hg16
   intro hM17
   refine WQ.pass1 (dst := some 8) (by kernel_rfl) ?_
   refine WQ.pass1 (dst := some 9) (by kernel_rfl) ?_
   refine WQ.pass1 (dst := some 10) (by kernel_rfl) ?_
   refine WQ.pass1 (dst := some 11) (by kernel_rfl) ?_
   refine WQ.pass1 (dst := some 12) (by kernel_rfl) ?_
   refine WQ.pass1 (dst := some 13) (by kernel_rfl) ?_
   refine WQ.pass1 (dst := some 14) (by kernel_rfl) ?_
   refine WQ.val (dst := some 15) (.bool true) (fun _ => by kernel_rfl) ?_
   exact WQ.keep [15] (by kernel_rfl) hM17
 have hx26 : IU64 (span_All true).Lo ∧ IU64 (span_All true).Hi := span_All_ok true 
 refine WQ.val (dst := some 4) (.bool (x13 || (a1 && (!(span_Within a0 (span_All true)))))) (fun _ => by kernel_rfl) ?_
 refine WQ.fin (by kernel_rfl) ?_
 intro w27 hc28
 have hz30 := hc28.size
 have hC29 := hC9.pure hc28
 refine go hK12 ?_
 refine CW.ret ?_
 exact retV (.bool (x13 || (a1 && (!(span_Within a0 (span_All true)))))) (by kernel_rfl) (⟨hC29, (congrArg (fun r : Bool => (.bool r : Value)) hs15).symm⟩)
end Go.V
