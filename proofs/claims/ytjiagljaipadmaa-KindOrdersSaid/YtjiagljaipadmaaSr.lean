import Derived.Test.YtjiagljaipadmaaProg
import Derived.Test.YtjiagljaipadmaaAl
namespace Go.V
open Go.RowKit Go.Proofs
def span_without (a0 : TSpan) (a1 : TSpan)  : TSpan := (letF (span_one a0) fun x40 => (if (x40 || (!(span_one a1))) then a0 else (if (a0.Lo == a1.Lo) then (if (a0.Hi == a1.Lo) then (⟨(IntKind.u64.wrap (a0.Lo + (1 : Int))), (IntKind.u64.wrap (a0.Hi - (1 : Int)))⟩ : TSpan) else (⟨(IntKind.u64.wrap (a0.Lo + (1 : Int))), a0.Hi⟩ : TSpan)) else (if (a0.Hi == a1.Lo) then (⟨a0.Lo, (IntKind.u64.wrap (a0.Hi - (1 : Int)))⟩ : TSpan) else a0))))

theorem span_without_ok (a0 : TSpan) (a1 : TSpan)  (_h_a0 : (0 ≤ a0.Lo ∧ a0.Lo ≤ 18446744073709551615) ∧ (0 ≤ a0.Hi ∧ a0.Hi ≤ 18446744073709551615)) (_h_a1 : (0 ≤ a1.Lo ∧ a1.Lo ≤ 18446744073709551615) ∧ (0 ≤ a1.Hi ∧ a1.Hi ≤ 18446744073709551615))  : (0 ≤ (span_without a0 a1).Lo ∧ (span_without a0 a1).Lo ≤ 18446744073709551615) ∧ (0 ≤ (span_without a0 a1).Hi ∧ (span_without a0 a1).Hi ≤ 18446744073709551615) := by
 rw [span_without.eq_1]
 refine letR (p := fun r : TSpan => (0 ≤ r.Lo ∧ r.Lo ≤ 18446744073709551615) ∧ (0 ≤ r.Hi ∧ r.Hi ≤ 18446744073709551615)) fun x40 _ => ?_
 refine iteR (p := fun r : TSpan => (0 ≤ r.Lo ∧ r.Lo ≤ 18446744073709551615) ∧ (0 ≤ r.Hi ∧ r.Hi ≤ 18446744073709551615)) (fun hi1001 => ?_) (fun hi1001 => ?_)
 ·
  replace hi1001 : (x40 = true) ∨ ((span_one a1) = false) := (orMap (bOrT hi1001) (fun h => h) (fun h => (bNotT h)))
  exact (by exact (show (0 ≤ a0.Lo ∧ a0.Lo ≤ 18446744073709551615) ∧ (0 ≤ a0.Hi ∧ a0.Hi ≤ 18446744073709551615) from ⟨(by omega), (by omega)⟩))
 replace hi1001 : (x40 = false) ∧ ((span_one a1) = true) := ⟨(bOrF hi1001).1, (bNotF (bOrF hi1001).2)⟩
 refine iteR (p := fun r : TSpan => (0 ≤ r.Lo ∧ r.Lo ≤ 18446744073709551615) ∧ (0 ≤ r.Hi ∧ r.Hi ≤ 18446744073709551615)) (fun hi1002 => ?_) (fun hi1002 => ?_)
 ·
  replace hi1002 : a0.Lo = a1.Lo := (bEqT hi1002)
  refine iteR (p := fun r : TSpan => (0 ≤ r.Lo ∧ r.Lo ≤ 18446744073709551615) ∧ (0 ≤ r.Hi ∧ r.Hi ≤ 18446744073709551615)) (fun hi1003 => ?_) (fun hi1003 => ?_)
  ·
   replace hi1003 : a0.Hi = a1.Lo := (bEqT hi1003)
   exact (by exact (show (0 ≤ (IntKind.u64.wrap (a0.Lo + (1 : Int))) ∧ (IntKind.u64.wrap (a0.Lo + (1 : Int))) ≤ 18446744073709551615) ∧ (0 ≤ (IntKind.u64.wrap (a0.Hi - (1 : Int))) ∧ (IntKind.u64.wrap (a0.Hi - (1 : Int))) ≤ 18446744073709551615) from ⟨(wrapU64 _), (wrapU64 _)⟩))
  replace hi1003 : a0.Hi ≠ a1.Lo := (bEqF hi1003)
  exact (by exact (show (0 ≤ (IntKind.u64.wrap (a0.Lo + (1 : Int))) ∧ (IntKind.u64.wrap (a0.Lo + (1 : Int))) ≤ 18446744073709551615) ∧ (0 ≤ a0.Hi ∧ a0.Hi ≤ 18446744073709551615) from ⟨(wrapU64 _), (by omega)⟩))
 replace hi1002 : a0.Lo ≠ a1.Lo := (bEqF hi1002)
 refine iteR (p := fun r : TSpan => (0 ≤ r.Lo ∧ r.Lo ≤ 18446744073709551615) ∧ (0 ≤ r.Hi ∧ r.Hi ≤ 18446744073709551615)) (fun hi1004 => ?_) (fun hi1004 => ?_)
 ·
  replace hi1004 : a0.Hi = a1.Lo := (bEqT hi1004)
  exact (by exact (show (0 ≤ a0.Lo ∧ a0.Lo ≤ 18446744073709551615) ∧ (0 ≤ (IntKind.u64.wrap (a0.Hi - (1 : Int))) ∧ (IntKind.u64.wrap (a0.Hi - (1 : Int))) ≤ 18446744073709551615) from ⟨(by omega), (wrapU64 _)⟩))
 replace hi1004 : a0.Hi ≠ a1.Lo := (bEqF hi1004)
 exact (by exact (show (0 ≤ a0.Lo ∧ a0.Lo ≤ 18446744073709551615) ∧ (0 ≤ a0.Hi ∧ a0.Hi ≤ 18446744073709551615) from ⟨(by omega), (by omega)⟩))

set_option maxHeartbeats 4000000 in
theorem span_without_any (a0 : TSpan) (a1 : TSpan)   (w : World)  (_h_a0 : (0 ≤ a0.Lo ∧ a0.Lo ≤ 18446744073709551615) ∧ (0 ≤ a0.Hi ∧ a0.Hi ≤ 18446744073709551615)) (_h_a1 : (0 ≤ a1.Lo ∧ a1.Lo ≤ 18446744073709551615) ∧ (0 ≤ a1.Hi ∧ a1.Hi ≤ 18446744073709551615))  : Calls Try.prog 134 #[.agg #[.int .u64 a0.Lo, .int .u64 a0.Hi], .agg #[.int .u64 a1.Lo, .int .u64 a1.Hi]] w (RetV w (.agg #[.int .u64 (span_without a0 a1).Lo, .int .u64 (span_without a0 a1).Hi])) := by
 have hs := span_without.eq_1 a0 a1
 refine calls_of_CW Try.func134 rfl (n := 32) Try.ntmps134 (by kernel_rfl) [0, 1] (F := [(0, .agg #[.int .u64 a0.Lo, .int .u64 a0.Hi]), (1, .agg #[.int .u64 a1.Lo, .int .u64 a1.Hi])]) (by kernel_rfl) ?_
 refine CW.seq fun K1 hK1 => ?_
 refine CW.region ?_
 refine WR.box (dst := some 2) (e := 25) (v := .agg #[.int .u64 a0.Lo, .int .u64 a0.Hi]) (by kernel_rfl) #[.int .u64 a0.Lo, .int .u64 a0.Hi] (by kernel_rfl) ?_
 intro g2 w3 hN4
 have hf6 : w.heap.size ≤ g2 := hN4.fresh
 have hfr8 := hN4.fresh
 have hc7 := hN4.chg
 have hz10 := hc7.size
 have hC9 := (Chg.refl [] w).pure hc7
 have hb5 := hN4.blk
 have hg11 := hb5.lt
 refine WR.box (dst := some 3) (e := 25) (v := .agg #[.int .u64 a1.Lo, .int .u64 a1.Hi]) (by kernel_rfl) #[.int .u64 a1.Lo, .int .u64 a1.Hi] (by kernel_rfl) ?_
 intro g12 w13 hN14
 have hl17 : g2 < g12 := Nat.lt_of_lt_of_le hb5.lt hN14.fresh
 have hf16 : w.heap.size ≤ g12 := Nat.le_trans hC9.size hN14.fresh
 have hfr19 := hN14.fresh
 have hc18 := hN14.chg
 have hz21 := hc18.size
 have hC20 := hC9.pure hc18
 have hb22 := hb5.pure hc18
 have hb15 := hN14.blk
 have hg23 := hb15.lt
 refine WR.alloc (dst := some 4) (e := 25) (by kernel_rfl) #[.int .u64 0, .int .u64 0] (by kernel_rfl) ?_
 intro g24 w25 hN26
 have hl29 : g2 < g24 := Nat.lt_of_lt_of_le hb22.lt hN26.fresh
 have hl30 : g12 < g24 := Nat.lt_of_lt_of_le hb15.lt hN26.fresh
 have hf28 : w.heap.size ≤ g24 := Nat.le_trans hC20.size hN26.fresh
 have hfr32 := hN26.fresh
 have hc31 := hN26.chg
 have hz34 := hc31.size
 have hC33 := hC20.pure hc31
 have hb35 := hb22.pure hc31
 have hb36 := hb15.pure hc31
 have hb27 := hN26.blk
 have hg37 := hb27.lt
 refine WR.fin (by kernel_rfl) ?_
 refine go hK1 ?_
 refine CW.seq fun K38 hK38 => ?_
 refine CW.seq fun K39 hK39 => ?_
 refine CW.region ?_
 refine WR.load (dst := some 5) (t := 25) (o := 0) hb35 (by kernel_rfl) (.agg #[.int .u64 a0.Lo, .int .u64 a0.Hi]) (by kernel_rfl) ?_
 obtain ⟨x40, hx41⟩ : ∃ x, span_one a0 = x := ⟨_, rfl⟩
 have hs42 := letS hx41 hs
 refine WR.call (dst := some 6) (by kernel_rfl) (retE (g := fun r : Bool => (.bool r : Value)) hx41 (span_one_any a0 w25  ⟨(by omega), (by omega)⟩ )) ?_
 rintro _ w43 hc44 rfl
 have hz46 := hc44.size
 have hC45 := hC33.pure hc44
 have hb47 := hb35.pure hc44
 have hb48 := hb36.pure hc44
 have hb49 := hb27.pure hc44
 refine WR.batch 1 [(2, pt g2 0), (3, pt g12 0), (4, pt g24 0), (7, .bool x40)] (by kernel_rfl) ?_
 refine WR.mergeW 7 [(2, pt g2 0), (3, pt g12 0), (4, pt g24 0), (11, .bool (x40 || (!(span_one a1))))] (fun w' => Chg [] w43 w') (fun Q' => ?_) ?_
 ·
  cases hg50 : x40
  ·
   intro hM51
   refine WR.load (dst := some 8) (t := 25) (o := 0) hb48 (by kernel_rfl) (.agg #[.int .u64 a1.Lo, .int .u64 a1.Hi]) (by kernel_rfl) ?_
   refine WR.call (dst := some 9) (by kernel_rfl) (span_one_any a1 w43  ⟨(by omega), (by omega)⟩ ) ?_
   rintro _ w52 hc53 rfl
   have hz55 := hc53.size
   have hC54 := hC45.pure hc53
   have hb56 := hb47.pure hc53
   have hb57 := hb48.pure hc53
   have hb58 := hb49.pure hc53
   refine WR.batch 2 [(2, pt g2 0), (3, pt g12 0), (4, pt g24 0), (11, .bool (!(span_one a1)))] (by kernel_rfl) ?_
   exact WR.keep [2, 3, 4, 11] (by kernel_rfl) (hM51 _ ((Chg.refl [] w43).pure hc53))
  ·
   intro hM51
   refine WR.batch 4 [(2, pt g2 0), (3, pt g12 0), (4, pt g24 0), (11, .bool true)] (by kernel_rfl) ?_
   exact WR.keep [2, 3, 4, 11] (by kernel_rfl) (hM51 _ (Chg.refl [] w43))
 intro w59 hc60
 have hz62 := hc60.size
 have hC61 := hC45.pure hc60
 have hb63 := hb47.pure hc60
 have hb64 := hb48.pure hc60
 have hb65 := hb49.pure hc60
 refine WR.fin (by kernel_rfl) ?_
 refine go hK39 ?_
 refine CW.cond ((x40 || (!(span_one a1)))) (by kernel_rfl) (fun ht66 => ?_) (fun ht66 => ?_)
 ·
  have hs67 := ifT ht66 hs42
  replace ht66 : (x40 = true) ∨ ((span_one a1) = false) := (orMap (bOrT ht66) (fun h => h) (fun h => (bNotT h)))
  refine CW.seq fun K68 hK68 => ?_
  refine CW.region ?_
  refine WR.load (dst := some 12) (t := 25) (o := 0) hb63 (by kernel_rfl) (.agg #[.int .u64 a0.Lo, .int .u64 a0.Hi]) (by kernel_rfl) ?_
  refine WR.store (t := 25) (o := 0) (v := .agg #[.int .u64 a0.Lo, .int .u64 a0.Hi]) hb65 (by kernel_rfl) #[.int .u64 a0.Lo, .int .u64 a0.Hi] (by kernel_rfl) ?_
  intro w69 hb70 hc71
  have hz73 := hc71.size
  have hC72 := hC61.step1 hc71 (by omega)
  have hb74 := hb63.chg1 hc71 (by omega)
  have hb75 := hb64.chg1 hc71 (by omega)
  refine WR.fin (by kernel_rfl) ?_
  refine go hK68 ?_
  refine CW.ret ?_
  exact retC [.agg #[.int .u64 a0.Lo, .int .u64 a0.Hi]] (.agg #[.int .u64 a0.Lo, .int .u64 a0.Hi]) rfl ⟨resCell hb70 rfl (by kernel_rfl), trivial⟩ (⟨hC72, (congrArg (fun r : TSpan => (.agg #[.int .u64 r.Lo, .int .u64 r.Hi] : Value)) hs67).symm⟩)
 have hs76 := ifF ht66 hs42
 replace ht66 : (x40 = false) ∧ ((span_one a1) = true) := ⟨(bOrF ht66).1, (bNotF (bOrF ht66).2)⟩
 refine CW.skip ?_
 refine go hK38 ?_
 refine CW.seq fun K77 hK77 => ?_
 refine CW.seq fun K78 hK78 => ?_
 refine CW.region ?_
 refine WR.batch 1 [(2, pt g2 0), (3, pt g12 0), (4, pt g24 0), (13, pt g2 0)] (by kernel_rfl) ?_
 refine WR.load (dst := some 14) (t := 23) (o := 0) hb63 (by kernel_rfl) (.int .u64 a0.Lo) (by kernel_rfl) ?_
 refine WR.batch 1 [(2, pt g2 0), (3, pt g12 0), (4, pt g24 0), (14, .int .u64 a0.Lo), (15, pt g12 0)] (by kernel_rfl) ?_
 refine WR.load (dst := some 16) (t := 23) (o := 0) hb64 (by kernel_rfl) (.int .u64 a1.Lo) (by kernel_rfl) ?_
 refine WR.batch 1 [(2, pt g2 0), (3, pt g12 0), (4, pt g24 0), (17, .bool (a0.Lo == a1.Lo))] (by kernel_rfl) ?_
 refine WR.fin (by kernel_rfl) ?_
 refine go hK78 ?_
 refine CW.cond ((a0.Lo == a1.Lo)) (by kernel_rfl) (fun ht79 => ?_) (fun ht79 => ?_)
 ·
  have hs80 := ifT ht79 hs76
  replace ht79 : a0.Lo = a1.Lo := (bEqT ht79)
  refine CW.region ?_
  refine WR.batch 1 [(2, pt g2 0), (3, pt g12 0), (4, pt g24 0), (18, pt g2 0)] (by kernel_rfl) ?_
  refine WR.load (dst := some 19) (t := 23) (o := 0) hb63 (by kernel_rfl) (.int .u64 a0.Lo) (by kernel_rfl) ?_
  refine WR.batch 2 [(2, pt g2 0), (3, pt g12 0), (4, pt g24 0), (20, .int .u64 (IntKind.u64.wrap (a0.Lo + (1 : Int)))), (21, pt g2 0)] (by kernel_rfl) ?_
  refine WR.store (t := 23) (o := 0) (v := .int .u64 (IntKind.u64.wrap (a0.Lo + (1 : Int)))) hb63 (by kernel_rfl) #[.int .u64 (IntKind.u64.wrap (a0.Lo + (1 : Int))), .int .u64 a0.Hi] (by kernel_rfl) ?_
  intro w81 hb82 hc83
  have hz85 := hc83.size
  have hC84 := hC61.step1 hc83 (by omega)
  have hb86 := hb64.chg1 hc83 (by omega)
  have hb87 := hb65.chg1 hc83 (by omega)
  refine WR.fin (by kernel_rfl) ?_
  refine go hK77 ?_
  refine CW.seq fun K88 hK88 => ?_
  refine CW.seq fun K89 hK89 => ?_
  refine CW.region ?_
  refine WR.batch 1 [(2, pt g2 0), (3, pt g12 0), (4, pt g24 0), (22, pt g2 1)] (by kernel_rfl) ?_
  refine WR.load (dst := some 23) (t := 23) (o := 1) hb82 (by kernel_rfl) (.int .u64 a0.Hi) (by kernel_rfl) ?_
  refine WR.batch 1 [(2, pt g2 0), (4, pt g24 0), (23, .int .u64 a0.Hi), (24, pt g12 0)] (by kernel_rfl) ?_
  refine WR.load (dst := some 25) (t := 23) (o := 0) hb86 (by kernel_rfl) (.int .u64 a1.Lo) (by kernel_rfl) ?_
  refine WR.batch 1 [(2, pt g2 0), (4, pt g24 0), (26, .bool (a0.Hi == a1.Lo))] (by kernel_rfl) ?_
  refine WR.fin (by kernel_rfl) ?_
  refine go hK89 ?_
  refine CW.cond ((a0.Hi == a1.Lo)) (by kernel_rfl) (fun ht90 => ?_) (fun ht90 => ?_)
  ·
   have hs91 := ifT ht90 hs80
   replace ht90 : a0.Hi = a1.Lo := (bEqT ht90)
   refine CW.region ?_
   refine WR.batch 1 [(2, pt g2 0), (4, pt g24 0), (27, pt g2 1)] (by kernel_rfl) ?_
   refine WR.load (dst := some 28) (t := 23) (o := 1) hb82 (by kernel_rfl) (.int .u64 a0.Hi) (by kernel_rfl) ?_
   refine WR.batch 2 [(2, pt g2 0), (4, pt g24 0), (29, .int .u64 (IntKind.u64.wrap (a0.Hi - (1 : Int)))), (30, pt g2 1)] (by kernel_rfl) ?_
   refine WR.store (t := 23) (o := 1) (v := .int .u64 (IntKind.u64.wrap (a0.Hi - (1 : Int)))) hb82 (by kernel_rfl) #[.int .u64 (IntKind.u64.wrap (a0.Lo + (1 : Int))), .int .u64 (IntKind.u64.wrap (a0.Hi - (1 : Int)))] (by kernel_rfl) ?_
   intro w92 hb93 hc94
   have hz96 := hc94.size
   have hC95 := hC84.step1 hc94 (by omega)
   have hb97 := hb86.chg1 hc94 (by omega)
   have hb98 := hb87.chg1 hc94 (by omega)
   refine WR.fin (by kernel_rfl) ?_
   refine go hK88 ?_
   refine CW.seq fun K99 hK99 => ?_
   refine CW.region ?_
   refine WR.load (dst := some 31) (t := 25) (o := 0) hb93 (by kernel_rfl) (.agg #[.int .u64 (IntKind.u64.wrap (a0.Lo + (1 : Int))), .int .u64 (IntKind.u64.wrap (a0.Hi - (1 : Int)))]) (by kernel_rfl) ?_
   refine WR.store (t := 25) (o := 0) (v := .agg #[.int .u64 (IntKind.u64.wrap (a0.Lo + (1 : Int))), .int .u64 (IntKind.u64.wrap (a0.Hi - (1 : Int)))]) hb98 (by kernel_rfl) #[.int .u64 (IntKind.u64.wrap (a0.Lo + (1 : Int))), .int .u64 (IntKind.u64.wrap (a0.Hi - (1 : Int)))] (by kernel_rfl) ?_
   intro w100 hb101 hc102
   have hz104 := hc102.size
   have hC103 := hC95.step1 hc102 (by omega)
   have hb105 := hb93.chg1 hc102 (by omega)
   have hb106 := hb97.chg1 hc102 (by omega)
   refine WR.fin (by kernel_rfl) ?_
   refine go hK99 ?_
   refine CW.ret ?_
   exact retC [.agg #[.int .u64 (IntKind.u64.wrap (a0.Lo + (1 : Int))), .int .u64 (IntKind.u64.wrap (a0.Hi - (1 : Int)))]] (.agg #[.int .u64 (IntKind.u64.wrap (a0.Lo + (1 : Int))), .int .u64 (IntKind.u64.wrap (a0.Hi - (1 : Int)))]) rfl ⟨resCell hb101 rfl (by kernel_rfl), trivial⟩ (⟨hC103, (congrArg (fun r : TSpan => (.agg #[.int .u64 r.Lo, .int .u64 r.Hi] : Value)) hs91).symm⟩)
  have hs107 := ifF ht90 hs80
  replace ht90 : a0.Hi ≠ a1.Lo := (bEqF ht90)
  refine CW.skip ?_
  refine go hK88 ?_
  refine CW.seq fun K108 hK108 => ?_
  refine CW.region ?_
  refine WR.load (dst := some 31) (t := 25) (o := 0) hb82 (by kernel_rfl) (.agg #[.int .u64 (IntKind.u64.wrap (a0.Lo + (1 : Int))), .int .u64 a0.Hi]) (by kernel_rfl) ?_
  refine WR.store (t := 25) (o := 0) (v := .agg #[.int .u64 (IntKind.u64.wrap (a0.Lo + (1 : Int))), .int .u64 a0.Hi]) hb87 (by kernel_rfl) #[.int .u64 (IntKind.u64.wrap (a0.Lo + (1 : Int))), .int .u64 a0.Hi] (by kernel_rfl) ?_
  intro w109 hb110 hc111
  have hz113 := hc111.size
  have hC112 := hC84.step1 hc111 (by omega)
  have hb114 := hb82.chg1 hc111 (by omega)
  have hb115 := hb86.chg1 hc111 (by omega)
  refine WR.fin (by kernel_rfl) ?_
  refine go hK108 ?_
  refine CW.ret ?_
  exact retC [.agg #[.int .u64 (IntKind.u64.wrap (a0.Lo + (1 : Int))), .int .u64 a0.Hi]] (.agg #[.int .u64 (IntKind.u64.wrap (a0.Lo + (1 : Int))), .int .u64 a0.Hi]) rfl ⟨resCell hb110 rfl (by kernel_rfl), trivial⟩ (⟨hC112, (congrArg (fun r : TSpan => (.agg #[.int .u64 r.Lo, .int .u64 r.Hi] : Value)) hs107).symm⟩)
 have hs116 := ifF ht79 hs76
 replace ht79 : a0.Lo ≠ a1.Lo := (bEqF ht79)
 refine CW.skip ?_
 refine go hK77 ?_
 refine CW.seq fun K117 hK117 => ?_
 refine CW.seq fun K118 hK118 => ?_
 refine CW.region ?_
 refine WR.batch 1 [(2, pt g2 0), (3, pt g12 0), (4, pt g24 0), (22, pt g2 1)] (by kernel_rfl) ?_
 refine WR.load (dst := some 23) (t := 23) (o := 1) hb63 (by kernel_rfl) (.int .u64 a0.Hi) (by kernel_rfl) ?_
 refine WR.batch 1 [(2, pt g2 0), (4, pt g24 0), (23, .int .u64 a0.Hi), (24, pt g12 0)] (by kernel_rfl) ?_
 refine WR.load (dst := some 25) (t := 23) (o := 0) hb64 (by kernel_rfl) (.int .u64 a1.Lo) (by kernel_rfl) ?_
 refine WR.batch 1 [(2, pt g2 0), (4, pt g24 0), (26, .bool (a0.Hi == a1.Lo))] (by kernel_rfl) ?_
 refine WR.fin (by kernel_rfl) ?_
 refine go hK118 ?_
 refine CW.cond ((a0.Hi == a1.Lo)) (by kernel_rfl) (fun ht119 => ?_) (fun ht119 => ?_)
 ·
  have hs120 := ifT ht119 hs116
  replace ht119 : a0.Hi = a1.Lo := (bEqT ht119)
  refine CW.region ?_
  refine WR.batch 1 [(2, pt g2 0), (4, pt g24 0), (27, pt g2 1)] (by kernel_rfl) ?_
  refine WR.load (dst := some 28) (t := 23) (o := 1) hb63 (by kernel_rfl) (.int .u64 a0.Hi) (by kernel_rfl) ?_
  refine WR.batch 2 [(2, pt g2 0), (4, pt g24 0), (29, .int .u64 (IntKind.u64.wrap (a0.Hi - (1 : Int)))), (30, pt g2 1)] (by kernel_rfl) ?_
  refine WR.store (t := 23) (o := 1) (v := .int .u64 (IntKind.u64.wrap (a0.Hi - (1 : Int)))) hb63 (by kernel_rfl) #[.int .u64 a0.Lo, .int .u64 (IntKind.u64.wrap (a0.Hi - (1 : Int)))] (by kernel_rfl) ?_
  intro w121 hb122 hc123
  have hz125 := hc123.size
  have hC124 := hC61.step1 hc123 (by omega)
  have hb126 := hb64.chg1 hc123 (by omega)
  have hb127 := hb65.chg1 hc123 (by omega)
  refine WR.fin (by kernel_rfl) ?_
  refine go hK117 ?_
  refine CW.seq fun K128 hK128 => ?_
  refine CW.region ?_
  refine WR.load (dst := some 31) (t := 25) (o := 0) hb122 (by kernel_rfl) (.agg #[.int .u64 a0.Lo, .int .u64 (IntKind.u64.wrap (a0.Hi - (1 : Int)))]) (by kernel_rfl) ?_
  refine WR.store (t := 25) (o := 0) (v := .agg #[.int .u64 a0.Lo, .int .u64 (IntKind.u64.wrap (a0.Hi - (1 : Int)))]) hb127 (by kernel_rfl) #[.int .u64 a0.Lo, .int .u64 (IntKind.u64.wrap (a0.Hi - (1 : Int)))] (by kernel_rfl) ?_
  intro w129 hb130 hc131
  have hz133 := hc131.size
  have hC132 := hC124.step1 hc131 (by omega)
  have hb134 := hb122.chg1 hc131 (by omega)
  have hb135 := hb126.chg1 hc131 (by omega)
  refine WR.fin (by kernel_rfl) ?_
  refine go hK128 ?_
  refine CW.ret ?_
  exact retC [.agg #[.int .u64 a0.Lo, .int .u64 (IntKind.u64.wrap (a0.Hi - (1 : Int)))]] (.agg #[.int .u64 a0.Lo, .int .u64 (IntKind.u64.wrap (a0.Hi - (1 : Int)))]) rfl ⟨resCell hb130 rfl (by kernel_rfl), trivial⟩ (⟨hC132, (congrArg (fun r : TSpan => (.agg #[.int .u64 r.Lo, .int .u64 r.Hi] : Value)) hs120).symm⟩)
 have hs136 := ifF ht119 hs116
 replace ht119 : a0.Hi ≠ a1.Lo := (bEqF ht119)
 refine CW.skip ?_
 refine go hK117 ?_
 refine CW.seq fun K137 hK137 => ?_
 refine CW.region ?_
 refine WR.load (dst := some 31) (t := 25) (o := 0) hb63 (by kernel_rfl) (.agg #[.int .u64 a0.Lo, .int .u64 a0.Hi]) (by kernel_rfl) ?_
 refine WR.store (t := 25) (o := 0) (v := .agg #[.int .u64 a0.Lo, .int .u64 a0.Hi]) hb65 (by kernel_rfl) #[.int .u64 a0.Lo, .int .u64 a0.Hi] (by kernel_rfl) ?_
 intro w138 hb139 hc140
 have hz142 := hc140.size
 have hC141 := hC61.step1 hc140 (by omega)
 have hb143 := hb63.chg1 hc140 (by omega)
 have hb144 := hb64.chg1 hc140 (by omega)
 refine WR.fin (by kernel_rfl) ?_
 refine go hK137 ?_
 refine CW.ret ?_
 exact retC [.agg #[.int .u64 a0.Lo, .int .u64 a0.Hi]] (.agg #[.int .u64 a0.Lo, .int .u64 a0.Hi]) rfl ⟨resCell hb139 rfl (by kernel_rfl), trivial⟩ (⟨hC141, (congrArg (fun r : TSpan => (.agg #[.int .u64 r.Lo, .int .u64 r.Hi] : Value)) hs136).symm⟩)

def span_work_turned (a0 : Twork)  : Twork := (⟨a0.b, a0.a, a0.narrow, a0.most, a0.size⟩ : Twork)

theorem span_work_turned_ok (a0 : Twork)  (_h_a0 : (0 ≤ a0.a.Lo ∧ a0.a.Lo ≤ 18446744073709551615) ∧ (0 ≤ a0.a.Hi ∧ a0.a.Hi ≤ 18446744073709551615) ∧ (0 ≤ a0.b.Lo ∧ a0.b.Lo ≤ 18446744073709551615) ∧ (0 ≤ a0.b.Hi ∧ a0.b.Hi ≤ 18446744073709551615) ∧ (0 ≤ a0.most ∧ a0.most ≤ 18446744073709551615) ∧ (0 ≤ a0.size ∧ a0.size ≤ 18446744073709551615))  : (0 ≤ (span_work_turned a0).a.Lo ∧ (span_work_turned a0).a.Lo ≤ 18446744073709551615) ∧ (0 ≤ (span_work_turned a0).a.Hi ∧ (span_work_turned a0).a.Hi ≤ 18446744073709551615) ∧ (0 ≤ (span_work_turned a0).b.Lo ∧ (span_work_turned a0).b.Lo ≤ 18446744073709551615) ∧ (0 ≤ (span_work_turned a0).b.Hi ∧ (span_work_turned a0).b.Hi ≤ 18446744073709551615) ∧ (0 ≤ (span_work_turned a0).most ∧ (span_work_turned a0).most ≤ 18446744073709551615) ∧ (0 ≤ (span_work_turned a0).size ∧ (span_work_turned a0).size ≤ 18446744073709551615) := by
 rw [span_work_turned.eq_1]
 exact (by exact (show (0 ≤ a0.b.Lo ∧ a0.b.Lo ≤ 18446744073709551615) ∧ (0 ≤ a0.b.Hi ∧ a0.b.Hi ≤ 18446744073709551615) ∧ (0 ≤ a0.a.Lo ∧ a0.a.Lo ≤ 18446744073709551615) ∧ (0 ≤ a0.a.Hi ∧ a0.a.Hi ≤ 18446744073709551615) ∧ (0 ≤ a0.most ∧ a0.most ≤ 18446744073709551615) ∧ (0 ≤ a0.size ∧ a0.size ≤ 18446744073709551615) from ⟨(by omega), (by omega), (by omega), (by omega), (by omega), (by omega)⟩))

theorem span_work_turned_any (a0 : Twork)   (w : World)  (_h_a0 : (0 ≤ a0.a.Lo ∧ a0.a.Lo ≤ 18446744073709551615) ∧ (0 ≤ a0.a.Hi ∧ a0.a.Hi ≤ 18446744073709551615) ∧ (0 ≤ a0.b.Lo ∧ a0.b.Lo ≤ 18446744073709551615) ∧ (0 ≤ a0.b.Hi ∧ a0.b.Hi ≤ 18446744073709551615) ∧ (0 ≤ a0.most ∧ a0.most ≤ 18446744073709551615) ∧ (0 ≤ a0.size ∧ a0.size ≤ 18446744073709551615))  : Calls Try.prog 135 #[.agg #[.int .u64 a0.a.Lo, .int .u64 a0.a.Hi, .int .u64 a0.b.Lo, .int .u64 a0.b.Hi, .bool a0.narrow, .int .u64 a0.most, .int .u64 a0.size]] w (RetV w (.agg #[.int .u64 (span_work_turned a0).a.Lo, .int .u64 (span_work_turned a0).a.Hi, .int .u64 (span_work_turned a0).b.Lo, .int .u64 (span_work_turned a0).b.Hi, .bool (span_work_turned a0).narrow, .int .u64 (span_work_turned a0).most, .int .u64 (span_work_turned a0).size])) := by
 have hs := span_work_turned.eq_1 a0
 refine calls_of_CW Try.func135 rfl (n := 10) Try.ntmps135 (by kernel_rfl) [0] (F := [(0, .agg #[.int .u64 a0.a.Lo, .int .u64 a0.a.Hi, .int .u64 a0.b.Lo, .int .u64 a0.b.Hi, .bool a0.narrow, .int .u64 a0.most, .int .u64 a0.size])]) (by kernel_rfl) ?_
 refine CW.seq fun K1 hK1 => ?_
 refine CW.region ?_
 refine WR.box (dst := some 1) (e := 79) (v := .agg #[.int .u64 a0.a.Lo, .int .u64 a0.a.Hi, .int .u64 a0.b.Lo, .int .u64 a0.b.Hi, .bool a0.narrow, .int .u64 a0.most, .int .u64 a0.size]) (by kernel_rfl) #[.int .u64 a0.a.Lo, .int .u64 a0.a.Hi, .int .u64 a0.b.Lo, .int .u64 a0.b.Hi, .bool a0.narrow, .int .u64 a0.most, .int .u64 a0.size] (by kernel_rfl) ?_
 intro g2 w3 hN4
 have hf6 : w.heap.size ≤ g2 := hN4.fresh
 have hfr8 := hN4.fresh
 have hc7 := hN4.chg
 have hz10 := hc7.size
 have hC9 := (Chg.refl [] w).pure hc7
 have hb5 := hN4.blk
 have hg11 := hb5.lt
 refine WR.alloc (dst := some 2) (e := 79) (by kernel_rfl) #[.int .u64 0, .int .u64 0, .int .u64 0, .int .u64 0, .bool false, .int .u64 0, .int .u64 0] (by kernel_rfl) ?_
 intro g12 w13 hN14
 have hl17 : g2 < g12 := Nat.lt_of_lt_of_le hb5.lt hN14.fresh
 have hf16 : w.heap.size ≤ g12 := Nat.le_trans hC9.size hN14.fresh
 have hfr19 := hN14.fresh
 have hc18 := hN14.chg
 have hz21 := hc18.size
 have hC20 := hC9.pure hc18
 have hb22 := hb5.pure hc18
 have hb15 := hN14.blk
 have hg23 := hb15.lt
 refine WR.fin (by kernel_rfl) ?_
 refine go hK1 ?_
 refine CW.seq fun K24 hK24 => ?_
 refine CW.region ?_
 refine WR.batch 1 [(1, pt g2 0), (2, pt g12 0), (3, pt g2 2)] (by kernel_rfl) ?_
 refine WR.load (dst := some 4) (t := 25) (o := 2) hb22 (by kernel_rfl) (.agg #[.int .u64 a0.b.Lo, .int .u64 a0.b.Hi]) (by kernel_rfl) ?_
 refine WR.batch 1 [(1, pt g2 0), (2, pt g12 0), (4, .agg #[.int .u64 a0.b.Lo, .int .u64 a0.b.Hi]), (5, pt g2 0)] (by kernel_rfl) ?_
 refine WR.load (dst := some 6) (t := 25) (o := 0) hb22 (by kernel_rfl) (.agg #[.int .u64 a0.a.Lo, .int .u64 a0.a.Hi]) (by kernel_rfl) ?_
 refine WR.batch 1 [(1, pt g2 0), (2, pt g12 0), (4, .agg #[.int .u64 a0.b.Lo, .int .u64 a0.b.Hi]), (6, .agg #[.int .u64 a0.a.Lo, .int .u64 a0.a.Hi]), (7, pt g2 0)] (by kernel_rfl) ?_
 refine WR.store (t := 25) (o := 0) (v := .agg #[.int .u64 a0.b.Lo, .int .u64 a0.b.Hi]) hb22 (by kernel_rfl) #[.int .u64 a0.b.Lo, .int .u64 a0.b.Hi, .int .u64 a0.b.Lo, .int .u64 a0.b.Hi, .bool a0.narrow, .int .u64 a0.most, .int .u64 a0.size] (by kernel_rfl) ?_
 intro w25 hb26 hc27
 have hz29 := hc27.size
 have hC28 := hC20.step1 hc27 (by omega)
 have hb30 := hb15.chg1 hc27 (by omega)
 refine WR.batch 1 [(1, pt g2 0), (2, pt g12 0), (6, .agg #[.int .u64 a0.a.Lo, .int .u64 a0.a.Hi]), (8, pt g2 2)] (by kernel_rfl) ?_
 refine WR.store (t := 25) (o := 2) (v := .agg #[.int .u64 a0.a.Lo, .int .u64 a0.a.Hi]) hb26 (by kernel_rfl) #[.int .u64 a0.b.Lo, .int .u64 a0.b.Hi, .int .u64 a0.a.Lo, .int .u64 a0.a.Hi, .bool a0.narrow, .int .u64 a0.most, .int .u64 a0.size] (by kernel_rfl) ?_
 intro w31 hb32 hc33
 have hz35 := hc33.size
 have hC34 := hC28.step1 hc33 (by omega)
 have hb36 := hb30.chg1 hc33 (by omega)
 refine WR.fin (by kernel_rfl) ?_
 refine go hK24 ?_
 refine CW.seq fun K37 hK37 => ?_
 refine CW.region ?_
 refine WR.load (dst := some 9) (t := 79) (o := 0) hb32 (by kernel_rfl) (.agg #[.int .u64 a0.b.Lo, .int .u64 a0.b.Hi, .int .u64 a0.a.Lo, .int .u64 a0.a.Hi, .bool a0.narrow, .int .u64 a0.most, .int .u64 a0.size]) (by kernel_rfl) ?_
 refine WR.store (t := 79) (o := 0) (v := .agg #[.int .u64 a0.b.Lo, .int .u64 a0.b.Hi, .int .u64 a0.a.Lo, .int .u64 a0.a.Hi, .bool a0.narrow, .int .u64 a0.most, .int .u64 a0.size]) hb36 (by kernel_rfl) #[.int .u64 a0.b.Lo, .int .u64 a0.b.Hi, .int .u64 a0.a.Lo, .int .u64 a0.a.Hi, .bool a0.narrow, .int .u64 a0.most, .int .u64 a0.size] (by kernel_rfl) ?_
 intro w38 hb39 hc40
 have hz42 := hc40.size
 have hC41 := hC34.step1 hc40 (by omega)
 have hb43 := hb32.chg1 hc40 (by omega)
 refine WR.fin (by kernel_rfl) ?_
 refine go hK37 ?_
 refine CW.ret ?_
 exact retC [.agg #[.int .u64 a0.b.Lo, .int .u64 a0.b.Hi, .int .u64 a0.a.Lo, .int .u64 a0.a.Hi, .bool a0.narrow, .int .u64 a0.most, .int .u64 a0.size]] (.agg #[.int .u64 a0.b.Lo, .int .u64 a0.b.Hi, .int .u64 a0.a.Lo, .int .u64 a0.a.Hi, .bool a0.narrow, .int .u64 a0.most, .int .u64 a0.size]) rfl ⟨resCell hb39 rfl (by kernel_rfl), trivial⟩ (⟨hC41, (congrArg (fun r : Twork => (.agg #[.int .u64 r.a.Lo, .int .u64 r.a.Hi, .int .u64 r.b.Lo, .int .u64 r.b.Hi, .bool r.narrow, .int .u64 r.most, .int .u64 r.size] : Value)) hs).symm⟩)

def span_work_add (a0 : Twork)  : Option TSpan := (optF (span_must ((decide (a0.b.Hi ≤ (IntKind.u64.wrap (a0.most - a0.a.Hi)))) || (decide (a0.b.Lo > (IntKind.u64.wrap (a0.most - a0.a.Lo)))))) (none) fun _ => (letF (span_work_ends a0 (IntKind.u64.wrap (a0.a.Lo + a0.b.Lo)) (IntKind.u64.wrap (a0.a.Hi + a0.b.Hi))) fun x50 => some x50))

theorem span_work_add_ok (a0 : Twork)  (_h_a0 : (0 ≤ a0.a.Lo ∧ a0.a.Lo ≤ 18446744073709551615) ∧ (0 ≤ a0.a.Hi ∧ a0.a.Hi ≤ 18446744073709551615) ∧ (0 ≤ a0.b.Lo ∧ a0.b.Lo ≤ 18446744073709551615) ∧ (0 ≤ a0.b.Hi ∧ a0.b.Hi ≤ 18446744073709551615) ∧ (0 ≤ a0.most ∧ a0.most ≤ 18446744073709551615) ∧ (0 ≤ a0.size ∧ a0.size ≤ 18446744073709551615))  : ∀ y, (span_work_add a0) = some y → (0 ≤ y.Lo ∧ y.Lo ≤ 18446744073709551615) ∧ (0 ≤ y.Hi ∧ y.Hi ≤ 18446744073709551615) := by
 rw [span_work_add.eq_1]
 refine optR (p := fun r : Option TSpan => ∀ y, r = some y → (0 ≤ y.Lo ∧ y.Lo ≤ 18446744073709551615) ∧ (0 ≤ y.Hi ∧ y.Hi ≤ 18446744073709551615)) (fun _ => ?_) (fun x33 _ => ?_)
 ·
  intro y hy; cases hy
 refine letR (p := fun r : Option TSpan => ∀ y, r = some y → (0 ≤ y.Lo ∧ y.Lo ≤ 18446744073709551615) ∧ (0 ≤ y.Hi ∧ y.Hi ≤ 18446744073709551615)) fun x50 hx51 => ?_
 have hx52 : (0 ≤ x50.Lo ∧ x50.Lo ≤ 18446744073709551615) ∧ (0 ≤ x50.Hi ∧ x50.Hi ≤ 18446744073709551615) := by rw [← hx51]; exact span_work_ends_ok a0 (IntKind.u64.wrap (a0.a.Lo + a0.b.Lo)) (IntKind.u64.wrap (a0.a.Hi + a0.b.Hi)) ⟨(by omega), (by omega), (by omega), (by omega), (by omega), (by omega)⟩ (wrapU64 _) (wrapU64 _) 
 intro y hy; cases hy; exact (by exact (show (0 ≤ x50.Lo ∧ x50.Lo ≤ 18446744073709551615) ∧ (0 ≤ x50.Hi ∧ x50.Hi ≤ 18446744073709551615) from ⟨(by omega), (by omega)⟩))

theorem span_work_add_any (a0 : Twork)   (w : World)  (_h_a0 : (0 ≤ a0.a.Lo ∧ a0.a.Lo ≤ 18446744073709551615) ∧ (0 ≤ a0.a.Hi ∧ a0.a.Hi ≤ 18446744073709551615) ∧ (0 ≤ a0.b.Lo ∧ a0.b.Lo ≤ 18446744073709551615) ∧ (0 ≤ a0.b.Hi ∧ a0.b.Hi ≤ 18446744073709551615) ∧ (0 ≤ a0.most ∧ a0.most ≤ 18446744073709551615) ∧ (0 ≤ a0.size ∧ a0.size ≤ 18446744073709551615))  : Calls Try.prog 76 #[.agg #[.int .u64 a0.a.Lo, .int .u64 a0.a.Hi, .int .u64 a0.b.Lo, .int .u64 a0.b.Hi, .bool a0.narrow, .int .u64 a0.most, .int .u64 a0.size]] w (RetP w (.iface 76 (.agg #[])) (((span_work_add a0)).map fun r : TSpan => (.agg #[.int .u64 r.Lo, .int .u64 r.Hi] : Value))) := by
 have hs := span_work_add.eq_1 a0
 refine calls_of_CW Try.func76 rfl (n := 42) Try.ntmps76 (by kernel_rfl) [0] (F := [(0, .agg #[.int .u64 a0.a.Lo, .int .u64 a0.a.Hi, .int .u64 a0.b.Lo, .int .u64 a0.b.Hi, .bool a0.narrow, .int .u64 a0.most, .int .u64 a0.size])]) (by kernel_rfl) ?_
 refine CW.seq fun K1 hK1 => ?_
 refine CW.region ?_
 refine WR.box (dst := some 1) (e := 79) (v := .agg #[.int .u64 a0.a.Lo, .int .u64 a0.a.Hi, .int .u64 a0.b.Lo, .int .u64 a0.b.Hi, .bool a0.narrow, .int .u64 a0.most, .int .u64 a0.size]) (by kernel_rfl) #[.int .u64 a0.a.Lo, .int .u64 a0.a.Hi, .int .u64 a0.b.Lo, .int .u64 a0.b.Hi, .bool a0.narrow, .int .u64 a0.most, .int .u64 a0.size] (by kernel_rfl) ?_
 intro g2 w3 hN4
 have hf6 : w.heap.size ≤ g2 := hN4.fresh
 have hfr8 := hN4.fresh
 have hc7 := hN4.chg
 have hz10 := hc7.size
 have hC9 := (Chg.refl [] w).pure hc7
 have hb5 := hN4.blk
 have hg11 := hb5.lt
 refine WR.alloc (dst := some 2) (e := 25) (by kernel_rfl) #[.int .u64 0, .int .u64 0] (by kernel_rfl) ?_
 intro g12 w13 hN14
 have hl17 : g2 < g12 := Nat.lt_of_lt_of_le hb5.lt hN14.fresh
 have hf16 : w.heap.size ≤ g12 := Nat.le_trans hC9.size hN14.fresh
 have hfr19 := hN14.fresh
 have hc18 := hN14.chg
 have hz21 := hc18.size
 have hC20 := hC9.pure hc18
 have hb22 := hb5.pure hc18
 have hb15 := hN14.blk
 have hg23 := hb15.lt
 refine WR.fin (by kernel_rfl) ?_
 refine go hK1 ?_
 refine CW.seq fun K24 hK24 => ?_
 refine CW.region ?_
 refine WR.batch 2 [(1, pt g2 0), (2, pt g12 0), (4, pt g2 3)] (by kernel_rfl) ?_
 refine WR.load (dst := some 5) (t := 23) (o := 3) hb22 (by kernel_rfl) (.int .u64 a0.b.Hi) (by kernel_rfl) ?_
 refine WR.batch 1 [(1, pt g2 0), (2, pt g12 0), (5, .int .u64 a0.b.Hi), (6, pt g2 5)] (by kernel_rfl) ?_
 refine WR.load (dst := some 7) (t := 23) (o := 5) hb22 (by kernel_rfl) (.int .u64 a0.most) (by kernel_rfl) ?_
 refine WR.batch 2 [(1, pt g2 0), (2, pt g12 0), (5, .int .u64 a0.b.Hi), (7, .int .u64 a0.most), (9, pt g2 1)] (by kernel_rfl) ?_
 refine WR.load (dst := some 10) (t := 23) (o := 1) hb22 (by kernel_rfl) (.int .u64 a0.a.Hi) (by kernel_rfl) ?_
 refine WR.batch 3 [(1, pt g2 0), (2, pt g12 0), (13, .bool (decide (a0.b.Hi ≤ (IntKind.u64.wrap (a0.most - a0.a.Hi)))))] (by kernel_rfl) ?_
 refine WR.mergeW 22 [(1, pt g2 0), (2, pt g12 0), (24, .bool ((decide (a0.b.Hi ≤ (IntKind.u64.wrap (a0.most - a0.a.Hi)))) || (decide (a0.b.Lo > (IntKind.u64.wrap (a0.most - a0.a.Lo))))))] (fun w' => Chg [] w13 w') (fun Q' => ?_) ?_
 ·
  cases hg25 : decide (a0.b.Hi ≤ (IntKind.u64.wrap (a0.most - a0.a.Hi)))
  ·
   replace hg25 : ¬ (a0.b.Hi ≤ (IntKind.u64.wrap (a0.most - a0.a.Hi))) := (of_decide_eq_false hg25)
   intro hM26
   refine WR.batch 2 [(1, pt g2 0), (2, pt g12 0), (13, .bool false), (15, pt g2 2)] (by kernel_rfl) ?_
   refine WR.load (dst := some 16) (t := 23) (o := 2) hb22 (by kernel_rfl) (.int .u64 a0.b.Lo) (by kernel_rfl) ?_
   refine WR.batch 1 [(1, pt g2 0), (2, pt g12 0), (13, .bool false), (16, .int .u64 a0.b.Lo), (17, pt g2 5)] (by kernel_rfl) ?_
   refine WR.load (dst := some 18) (t := 23) (o := 5) hb22 (by kernel_rfl) (.int .u64 a0.most) (by kernel_rfl) ?_
   refine WR.batch 2 [(1, pt g2 0), (2, pt g12 0), (13, .bool false), (16, .int .u64 a0.b.Lo), (18, .int .u64 a0.most), (20, pt g2 0)] (by kernel_rfl) ?_
   refine WR.load (dst := some 21) (t := 23) (o := 0) hb22 (by kernel_rfl) (.int .u64 a0.a.Lo) (by kernel_rfl) ?_
   refine WR.batch 3 [(1, pt g2 0), (2, pt g12 0), (24, .bool (decide (a0.b.Lo > (IntKind.u64.wrap (a0.most - a0.a.Lo)))))] (by kernel_rfl) ?_
   exact WR.keep [1, 2, 24] (by kernel_rfl) (hM26 _ (Chg.refl [] w13))
  ·
   replace hg25 : a0.b.Hi ≤ (IntKind.u64.wrap (a0.most - a0.a.Hi)) := (of_decide_eq_true hg25)
   intro hM26
   refine WR.batch 11 [(1, pt g2 0), (2, pt g12 0), (24, .bool true)] (by kernel_rfl) ?_
   exact WR.keep [1, 2, 24] (by kernel_rfl) (hM26 _ (Chg.refl [] w13))
 intro w27 hc28
 have hz30 := hc28.size
 have hC29 := hC20.pure hc28
 have hb31 := hb22.pure hc28
 have hb32 := hb15.pure hc28
 rcases hx34 : span_must ((decide (a0.b.Hi ≤ (IntKind.u64.wrap (a0.most - a0.a.Hi)))) || (decide (a0.b.Lo > (IntKind.u64.wrap (a0.most - a0.a.Lo))))) with _ | x33
 ·
  have hs37 := optN hx34 hs
  refine WR.callX (dst := some 25) (by kernel_rfl) (retP_no (g := fun r : Unit => (.tuple #[] : Value)) hx34 (span_must_any ((decide (a0.b.Hi ≤ (IntKind.u64.wrap (a0.most - a0.a.Hi)))) || (decide (a0.b.Lo > (IntKind.u64.wrap (a0.most - a0.a.Lo))))) w27  )) ?_
  intro w35 hc36
  have hz39 := hc36.size
  have hC38 := hC29.pure hc36
  have hb40 := hb31.pure hc36
  have hb41 := hb32.pure hc36
  exact panicV (P := Try.prog) (fn := Try.f76) (retP_pan hs37 hC38)
 have hs42 := optS hx34 hs
 refine WR.call (dst := some 25) (by kernel_rfl) (retP_yes (g := fun r : Unit => (.tuple #[] : Value)) hx34 (span_must_any ((decide (a0.b.Hi ≤ (IntKind.u64.wrap (a0.most - a0.a.Hi)))) || (decide (a0.b.Lo > (IntKind.u64.wrap (a0.most - a0.a.Lo))))) w27  )) ?_
 rintro _ w43 hc44 rfl
 have hz46 := hc44.size
 have hC45 := hC29.pure hc44
 have hb47 := hb31.pure hc44
 have hb48 := hb32.pure hc44
 refine WR.fin (by kernel_rfl) ?_
 refine go hK24 ?_
 refine CW.seq fun K49 hK49 => ?_
 refine CW.region ?_
 refine WR.load (dst := some 26) (t := 79) (o := 0) hb47 (by kernel_rfl) (.agg #[.int .u64 a0.a.Lo, .int .u64 a0.a.Hi, .int .u64 a0.b.Lo, .int .u64 a0.b.Hi, .bool a0.narrow, .int .u64 a0.most, .int .u64 a0.size]) (by kernel_rfl) ?_
 refine WR.batch 2 [(1, pt g2 0), (2, pt g12 0), (26, .agg #[.int .u64 a0.a.Lo, .int .u64 a0.a.Hi, .int .u64 a0.b.Lo, .int .u64 a0.b.Hi, .bool a0.narrow, .int .u64 a0.most, .int .u64 a0.size]), (28, pt g2 0)] (by kernel_rfl) ?_
 refine WR.load (dst := some 29) (t := 23) (o := 0) hb47 (by kernel_rfl) (.int .u64 a0.a.Lo) (by kernel_rfl) ?_
 refine WR.batch 2 [(1, pt g2 0), (2, pt g12 0), (26, .agg #[.int .u64 a0.a.Lo, .int .u64 a0.a.Hi, .int .u64 a0.b.Lo, .int .u64 a0.b.Hi, .bool a0.narrow, .int .u64 a0.most, .int .u64 a0.size]), (29, .int .u64 a0.a.Lo), (31, pt g2 2)] (by kernel_rfl) ?_
 refine WR.load (dst := some 32) (t := 23) (o := 2) hb47 (by kernel_rfl) (.int .u64 a0.b.Lo) (by kernel_rfl) ?_
 refine WR.batch 3 [(1, pt g2 0), (2, pt g12 0), (26, .agg #[.int .u64 a0.a.Lo, .int .u64 a0.a.Hi, .int .u64 a0.b.Lo, .int .u64 a0.b.Hi, .bool a0.narrow, .int .u64 a0.most, .int .u64 a0.size]), (33, .int .u64 (IntKind.u64.wrap (a0.a.Lo + a0.b.Lo))), (35, pt g2 1)] (by kernel_rfl) ?_
 refine WR.load (dst := some 36) (t := 23) (o := 1) hb47 (by kernel_rfl) (.int .u64 a0.a.Hi) (by kernel_rfl) ?_
 refine WR.batch 2 [(2, pt g12 0), (26, .agg #[.int .u64 a0.a.Lo, .int .u64 a0.a.Hi, .int .u64 a0.b.Lo, .int .u64 a0.b.Hi, .bool a0.narrow, .int .u64 a0.most, .int .u64 a0.size]), (33, .int .u64 (IntKind.u64.wrap (a0.a.Lo + a0.b.Lo))), (36, .int .u64 a0.a.Hi), (38, pt g2 3)] (by kernel_rfl) ?_
 refine WR.load (dst := some 39) (t := 23) (o := 3) hb47 (by kernel_rfl) (.int .u64 a0.b.Hi) (by kernel_rfl) ?_
 refine WR.batch 1 [(2, pt g12 0), (26, .agg #[.int .u64 a0.a.Lo, .int .u64 a0.a.Hi, .int .u64 a0.b.Lo, .int .u64 a0.b.Hi, .bool a0.narrow, .int .u64 a0.most, .int .u64 a0.size]), (33, .int .u64 (IntKind.u64.wrap (a0.a.Lo + a0.b.Lo))), (40, .int .u64 (IntKind.u64.wrap (a0.a.Hi + a0.b.Hi)))] (by kernel_rfl) ?_
 obtain ⟨x50, hx51⟩ : ∃ x, span_work_ends a0 (IntKind.u64.wrap (a0.a.Lo + a0.b.Lo)) (IntKind.u64.wrap (a0.a.Hi + a0.b.Hi)) = x := ⟨_, rfl⟩
 have hs53 := letS hx51 hs42
 have hx54 : (0 ≤ x50.Lo ∧ x50.Lo ≤ 18446744073709551615) ∧ (0 ≤ x50.Hi ∧ x50.Hi ≤ 18446744073709551615) := by rw [← hx51]; exact span_work_ends_ok a0 (IntKind.u64.wrap (a0.a.Lo + a0.b.Lo)) (IntKind.u64.wrap (a0.a.Hi + a0.b.Hi)) ⟨(by omega), (by omega), (by omega), (by omega), (by omega), (by omega)⟩ (wrapU64 _) (wrapU64 _) 
 refine WR.call (dst := some 41) (by kernel_rfl) (retE (g := fun r : TSpan => (.agg #[.int .u64 r.Lo, .int .u64 r.Hi] : Value)) hx51 (span_work_ends_any a0 (IntKind.u64.wrap (a0.a.Lo + a0.b.Lo)) (IntKind.u64.wrap (a0.a.Hi + a0.b.Hi)) w43  ⟨(by omega), (by omega), (by omega), (by omega), (by omega), (by omega)⟩ (wrapU64 _) (wrapU64 _) )) ?_
 rintro _ w55 hc56 rfl
 have hz58 := hc56.size
 have hC57 := hC45.pure hc56
 have hb59 := hb47.pure hc56
 have hb60 := hb48.pure hc56
 refine WR.store (t := 25) (o := 0) (v := .agg #[.int .u64 x50.Lo, .int .u64 x50.Hi]) hb60 (by kernel_rfl) #[.int .u64 x50.Lo, .int .u64 x50.Hi] (by kernel_rfl) ?_
 intro w61 hb62 hc63
 have hz65 := hc63.size
 have hC64 := hC57.step1 hc63 (by omega)
 have hb66 := hb59.chg1 hc63 (by omega)
 refine WR.fin (by kernel_rfl) ?_
 refine go hK49 ?_
 refine CW.ret ?_
 exact retC [.agg #[.int .u64 x50.Lo, .int .u64 x50.Hi]] (.agg #[.int .u64 x50.Lo, .int .u64 x50.Hi]) rfl ⟨resCell hb62 rfl (by kernel_rfl), trivial⟩ (retP_ret (g := (fun r : TSpan => (.agg #[.int .u64 r.Lo, .int .u64 r.Hi] : Value))) hs53 rfl hC64)

def span_work_sub (a0 : Twork)  : Option TSpan := (optF (span_must ((decide (a0.a.Lo ≥ a0.b.Hi)) || (decide (a0.a.Hi < a0.b.Lo)))) (none) fun _ => (letF (span_work_ends a0 (IntKind.u64.wrap (a0.a.Lo - a0.b.Hi)) (IntKind.u64.wrap (a0.a.Hi - a0.b.Lo))) fun x50 => some x50))

theorem span_work_sub_ok (a0 : Twork)  (_h_a0 : (0 ≤ a0.a.Lo ∧ a0.a.Lo ≤ 18446744073709551615) ∧ (0 ≤ a0.a.Hi ∧ a0.a.Hi ≤ 18446744073709551615) ∧ (0 ≤ a0.b.Lo ∧ a0.b.Lo ≤ 18446744073709551615) ∧ (0 ≤ a0.b.Hi ∧ a0.b.Hi ≤ 18446744073709551615) ∧ (0 ≤ a0.most ∧ a0.most ≤ 18446744073709551615) ∧ (0 ≤ a0.size ∧ a0.size ≤ 18446744073709551615))  : ∀ y, (span_work_sub a0) = some y → (0 ≤ y.Lo ∧ y.Lo ≤ 18446744073709551615) ∧ (0 ≤ y.Hi ∧ y.Hi ≤ 18446744073709551615) := by
 rw [span_work_sub.eq_1]
 refine optR (p := fun r : Option TSpan => ∀ y, r = some y → (0 ≤ y.Lo ∧ y.Lo ≤ 18446744073709551615) ∧ (0 ≤ y.Hi ∧ y.Hi ≤ 18446744073709551615)) (fun _ => ?_) (fun x33 _ => ?_)
 ·
  intro y hy; cases hy
 refine letR (p := fun r : Option TSpan => ∀ y, r = some y → (0 ≤ y.Lo ∧ y.Lo ≤ 18446744073709551615) ∧ (0 ≤ y.Hi ∧ y.Hi ≤ 18446744073709551615)) fun x50 hx51 => ?_
 have hx52 : (0 ≤ x50.Lo ∧ x50.Lo ≤ 18446744073709551615) ∧ (0 ≤ x50.Hi ∧ x50.Hi ≤ 18446744073709551615) := by rw [← hx51]; exact span_work_ends_ok a0 (IntKind.u64.wrap (a0.a.Lo - a0.b.Hi)) (IntKind.u64.wrap (a0.a.Hi - a0.b.Lo)) ⟨(by omega), (by omega), (by omega), (by omega), (by omega), (by omega)⟩ (wrapU64 _) (wrapU64 _) 
 intro y hy; cases hy; exact (by exact (show (0 ≤ x50.Lo ∧ x50.Lo ≤ 18446744073709551615) ∧ (0 ≤ x50.Hi ∧ x50.Hi ≤ 18446744073709551615) from ⟨(by omega), (by omega)⟩))

theorem span_work_sub_any (a0 : Twork)   (w : World)  (_h_a0 : (0 ≤ a0.a.Lo ∧ a0.a.Lo ≤ 18446744073709551615) ∧ (0 ≤ a0.a.Hi ∧ a0.a.Hi ≤ 18446744073709551615) ∧ (0 ≤ a0.b.Lo ∧ a0.b.Lo ≤ 18446744073709551615) ∧ (0 ≤ a0.b.Hi ∧ a0.b.Hi ≤ 18446744073709551615) ∧ (0 ≤ a0.most ∧ a0.most ≤ 18446744073709551615) ∧ (0 ≤ a0.size ∧ a0.size ≤ 18446744073709551615))  : Calls Try.prog 77 #[.agg #[.int .u64 a0.a.Lo, .int .u64 a0.a.Hi, .int .u64 a0.b.Lo, .int .u64 a0.b.Hi, .bool a0.narrow, .int .u64 a0.most, .int .u64 a0.size]] w (RetP w (.iface 76 (.agg #[])) (((span_work_sub a0)).map fun r : TSpan => (.agg #[.int .u64 r.Lo, .int .u64 r.Hi] : Value))) := by
 have hs := span_work_sub.eq_1 a0
 refine calls_of_CW Try.func77 rfl (n := 36) Try.ntmps77 (by kernel_rfl) [0] (F := [(0, .agg #[.int .u64 a0.a.Lo, .int .u64 a0.a.Hi, .int .u64 a0.b.Lo, .int .u64 a0.b.Hi, .bool a0.narrow, .int .u64 a0.most, .int .u64 a0.size])]) (by kernel_rfl) ?_
 refine CW.seq fun K1 hK1 => ?_
 refine CW.region ?_
 refine WR.box (dst := some 1) (e := 79) (v := .agg #[.int .u64 a0.a.Lo, .int .u64 a0.a.Hi, .int .u64 a0.b.Lo, .int .u64 a0.b.Hi, .bool a0.narrow, .int .u64 a0.most, .int .u64 a0.size]) (by kernel_rfl) #[.int .u64 a0.a.Lo, .int .u64 a0.a.Hi, .int .u64 a0.b.Lo, .int .u64 a0.b.Hi, .bool a0.narrow, .int .u64 a0.most, .int .u64 a0.size] (by kernel_rfl) ?_
 intro g2 w3 hN4
 have hf6 : w.heap.size ≤ g2 := hN4.fresh
 have hfr8 := hN4.fresh
 have hc7 := hN4.chg
 have hz10 := hc7.size
 have hC9 := (Chg.refl [] w).pure hc7
 have hb5 := hN4.blk
 have hg11 := hb5.lt
 refine WR.alloc (dst := some 2) (e := 25) (by kernel_rfl) #[.int .u64 0, .int .u64 0] (by kernel_rfl) ?_
 intro g12 w13 hN14
 have hl17 : g2 < g12 := Nat.lt_of_lt_of_le hb5.lt hN14.fresh
 have hf16 : w.heap.size ≤ g12 := Nat.le_trans hC9.size hN14.fresh
 have hfr19 := hN14.fresh
 have hc18 := hN14.chg
 have hz21 := hc18.size
 have hC20 := hC9.pure hc18
 have hb22 := hb5.pure hc18
 have hb15 := hN14.blk
 have hg23 := hb15.lt
 refine WR.fin (by kernel_rfl) ?_
 refine go hK1 ?_
 refine CW.seq fun K24 hK24 => ?_
 refine CW.region ?_
 refine WR.batch 2 [(1, pt g2 0), (2, pt g12 0), (4, pt g2 0)] (by kernel_rfl) ?_
 refine WR.load (dst := some 5) (t := 23) (o := 0) hb22 (by kernel_rfl) (.int .u64 a0.a.Lo) (by kernel_rfl) ?_
 refine WR.batch 2 [(1, pt g2 0), (2, pt g12 0), (5, .int .u64 a0.a.Lo), (7, pt g2 3)] (by kernel_rfl) ?_
 refine WR.load (dst := some 8) (t := 23) (o := 3) hb22 (by kernel_rfl) (.int .u64 a0.b.Hi) (by kernel_rfl) ?_
 refine WR.batch 2 [(1, pt g2 0), (2, pt g12 0), (10, .bool (decide (a0.a.Lo ≥ a0.b.Hi)))] (by kernel_rfl) ?_
 refine WR.mergeW 16 [(1, pt g2 0), (2, pt g12 0), (18, .bool ((decide (a0.a.Lo ≥ a0.b.Hi)) || (decide (a0.a.Hi < a0.b.Lo))))] (fun w' => Chg [] w13 w') (fun Q' => ?_) ?_
 ·
  cases hg25 : decide (a0.a.Lo ≥ a0.b.Hi)
  ·
   replace hg25 : ¬ (a0.a.Lo ≥ a0.b.Hi) := (of_decide_eq_false hg25)
   intro hM26
   refine WR.batch 2 [(1, pt g2 0), (2, pt g12 0), (10, .bool false), (12, pt g2 1)] (by kernel_rfl) ?_
   refine WR.load (dst := some 13) (t := 23) (o := 1) hb22 (by kernel_rfl) (.int .u64 a0.a.Hi) (by kernel_rfl) ?_
   refine WR.batch 2 [(1, pt g2 0), (2, pt g12 0), (10, .bool false), (13, .int .u64 a0.a.Hi), (15, pt g2 2)] (by kernel_rfl) ?_
   refine WR.load (dst := some 16) (t := 23) (o := 2) hb22 (by kernel_rfl) (.int .u64 a0.b.Lo) (by kernel_rfl) ?_
   refine WR.batch 2 [(1, pt g2 0), (2, pt g12 0), (18, .bool (decide (a0.a.Hi < a0.b.Lo)))] (by kernel_rfl) ?_
   exact WR.keep [1, 2, 18] (by kernel_rfl) (hM26 _ (Chg.refl [] w13))
  ·
   replace hg25 : a0.a.Lo ≥ a0.b.Hi := (of_decide_eq_true hg25)
   intro hM26
   refine WR.batch 8 [(1, pt g2 0), (2, pt g12 0), (18, .bool true)] (by kernel_rfl) ?_
   exact WR.keep [1, 2, 18] (by kernel_rfl) (hM26 _ (Chg.refl [] w13))
 intro w27 hc28
 have hz30 := hc28.size
 have hC29 := hC20.pure hc28
 have hb31 := hb22.pure hc28
 have hb32 := hb15.pure hc28
 rcases hx34 : span_must ((decide (a0.a.Lo ≥ a0.b.Hi)) || (decide (a0.a.Hi < a0.b.Lo))) with _ | x33
 ·
  have hs37 := optN hx34 hs
  refine WR.callX (dst := some 19) (by kernel_rfl) (retP_no (g := fun r : Unit => (.tuple #[] : Value)) hx34 (span_must_any ((decide (a0.a.Lo ≥ a0.b.Hi)) || (decide (a0.a.Hi < a0.b.Lo))) w27  )) ?_
  intro w35 hc36
  have hz39 := hc36.size
  have hC38 := hC29.pure hc36
  have hb40 := hb31.pure hc36
  have hb41 := hb32.pure hc36
  exact panicV (P := Try.prog) (fn := Try.f77) (retP_pan hs37 hC38)
 have hs42 := optS hx34 hs
 refine WR.call (dst := some 19) (by kernel_rfl) (retP_yes (g := fun r : Unit => (.tuple #[] : Value)) hx34 (span_must_any ((decide (a0.a.Lo ≥ a0.b.Hi)) || (decide (a0.a.Hi < a0.b.Lo))) w27  )) ?_
 rintro _ w43 hc44 rfl
 have hz46 := hc44.size
 have hC45 := hC29.pure hc44
 have hb47 := hb31.pure hc44
 have hb48 := hb32.pure hc44
 refine WR.fin (by kernel_rfl) ?_
 refine go hK24 ?_
 refine CW.seq fun K49 hK49 => ?_
 refine CW.region ?_
 refine WR.load (dst := some 20) (t := 79) (o := 0) hb47 (by kernel_rfl) (.agg #[.int .u64 a0.a.Lo, .int .u64 a0.a.Hi, .int .u64 a0.b.Lo, .int .u64 a0.b.Hi, .bool a0.narrow, .int .u64 a0.most, .int .u64 a0.size]) (by kernel_rfl) ?_
 refine WR.batch 2 [(1, pt g2 0), (2, pt g12 0), (20, .agg #[.int .u64 a0.a.Lo, .int .u64 a0.a.Hi, .int .u64 a0.b.Lo, .int .u64 a0.b.Hi, .bool a0.narrow, .int .u64 a0.most, .int .u64 a0.size]), (22, pt g2 0)] (by kernel_rfl) ?_
 refine WR.load (dst := some 23) (t := 23) (o := 0) hb47 (by kernel_rfl) (.int .u64 a0.a.Lo) (by kernel_rfl) ?_
 refine WR.batch 2 [(1, pt g2 0), (2, pt g12 0), (20, .agg #[.int .u64 a0.a.Lo, .int .u64 a0.a.Hi, .int .u64 a0.b.Lo, .int .u64 a0.b.Hi, .bool a0.narrow, .int .u64 a0.most, .int .u64 a0.size]), (23, .int .u64 a0.a.Lo), (25, pt g2 3)] (by kernel_rfl) ?_
 refine WR.load (dst := some 26) (t := 23) (o := 3) hb47 (by kernel_rfl) (.int .u64 a0.b.Hi) (by kernel_rfl) ?_
 refine WR.batch 3 [(1, pt g2 0), (2, pt g12 0), (20, .agg #[.int .u64 a0.a.Lo, .int .u64 a0.a.Hi, .int .u64 a0.b.Lo, .int .u64 a0.b.Hi, .bool a0.narrow, .int .u64 a0.most, .int .u64 a0.size]), (27, .int .u64 (IntKind.u64.wrap (a0.a.Lo - a0.b.Hi))), (29, pt g2 1)] (by kernel_rfl) ?_
 refine WR.load (dst := some 30) (t := 23) (o := 1) hb47 (by kernel_rfl) (.int .u64 a0.a.Hi) (by kernel_rfl) ?_
 refine WR.batch 2 [(2, pt g12 0), (20, .agg #[.int .u64 a0.a.Lo, .int .u64 a0.a.Hi, .int .u64 a0.b.Lo, .int .u64 a0.b.Hi, .bool a0.narrow, .int .u64 a0.most, .int .u64 a0.size]), (27, .int .u64 (IntKind.u64.wrap (a0.a.Lo - a0.b.Hi))), (30, .int .u64 a0.a.Hi), (32, pt g2 2)] (by kernel_rfl) ?_
 refine WR.load (dst := some 33) (t := 23) (o := 2) hb47 (by kernel_rfl) (.int .u64 a0.b.Lo) (by kernel_rfl) ?_
 refine WR.batch 1 [(2, pt g12 0), (20, .agg #[.int .u64 a0.a.Lo, .int .u64 a0.a.Hi, .int .u64 a0.b.Lo, .int .u64 a0.b.Hi, .bool a0.narrow, .int .u64 a0.most, .int .u64 a0.size]), (27, .int .u64 (IntKind.u64.wrap (a0.a.Lo - a0.b.Hi))), (34, .int .u64 (IntKind.u64.wrap (a0.a.Hi - a0.b.Lo)))] (by kernel_rfl) ?_
 obtain ⟨x50, hx51⟩ : ∃ x, span_work_ends a0 (IntKind.u64.wrap (a0.a.Lo - a0.b.Hi)) (IntKind.u64.wrap (a0.a.Hi - a0.b.Lo)) = x := ⟨_, rfl⟩
 have hs53 := letS hx51 hs42
 have hx54 : (0 ≤ x50.Lo ∧ x50.Lo ≤ 18446744073709551615) ∧ (0 ≤ x50.Hi ∧ x50.Hi ≤ 18446744073709551615) := by rw [← hx51]; exact span_work_ends_ok a0 (IntKind.u64.wrap (a0.a.Lo - a0.b.Hi)) (IntKind.u64.wrap (a0.a.Hi - a0.b.Lo)) ⟨(by omega), (by omega), (by omega), (by omega), (by omega), (by omega)⟩ (wrapU64 _) (wrapU64 _) 
 refine WR.call (dst := some 35) (by kernel_rfl) (retE (g := fun r : TSpan => (.agg #[.int .u64 r.Lo, .int .u64 r.Hi] : Value)) hx51 (span_work_ends_any a0 (IntKind.u64.wrap (a0.a.Lo - a0.b.Hi)) (IntKind.u64.wrap (a0.a.Hi - a0.b.Lo)) w43  ⟨(by omega), (by omega), (by omega), (by omega), (by omega), (by omega)⟩ (wrapU64 _) (wrapU64 _) )) ?_
 rintro _ w55 hc56 rfl
 have hz58 := hc56.size
 have hC57 := hC45.pure hc56
 have hb59 := hb47.pure hc56
 have hb60 := hb48.pure hc56
 refine WR.store (t := 25) (o := 0) (v := .agg #[.int .u64 x50.Lo, .int .u64 x50.Hi]) hb60 (by kernel_rfl) #[.int .u64 x50.Lo, .int .u64 x50.Hi] (by kernel_rfl) ?_
 intro w61 hb62 hc63
 have hz65 := hc63.size
 have hC64 := hC57.step1 hc63 (by omega)
 have hb66 := hb59.chg1 hc63 (by omega)
 refine WR.fin (by kernel_rfl) ?_
 refine go hK49 ?_
 refine CW.ret ?_
 exact retC [.agg #[.int .u64 x50.Lo, .int .u64 x50.Hi]] (.agg #[.int .u64 x50.Lo, .int .u64 x50.Hi]) rfl ⟨resCell hb62 rfl (by kernel_rfl), trivial⟩ (retP_ret (g := (fun r : TSpan => (.agg #[.int .u64 r.Lo, .int .u64 r.Hi] : Value))) hs53 rfl hC64)

def span_work_div (a0 : Twork)  : TSpan := (⟨(IntKind.u64.wrap ((a0.a.Lo).tdiv (gMax a0.b.Hi (1 : Int)))), (IntKind.u64.wrap ((a0.a.Hi).tdiv (gMax a0.b.Lo (1 : Int))))⟩ : TSpan)

theorem span_work_div_ok (a0 : Twork)  (_h_a0 : (0 ≤ a0.a.Lo ∧ a0.a.Lo ≤ 18446744073709551615) ∧ (0 ≤ a0.a.Hi ∧ a0.a.Hi ≤ 18446744073709551615) ∧ (0 ≤ a0.b.Lo ∧ a0.b.Lo ≤ 18446744073709551615) ∧ (0 ≤ a0.b.Hi ∧ a0.b.Hi ≤ 18446744073709551615) ∧ (0 ≤ a0.most ∧ a0.most ≤ 18446744073709551615) ∧ (0 ≤ a0.size ∧ a0.size ≤ 18446744073709551615))  : (0 ≤ (span_work_div a0).Lo ∧ (span_work_div a0).Lo ≤ 18446744073709551615) ∧ (0 ≤ (span_work_div a0).Hi ∧ (span_work_div a0).Hi ≤ 18446744073709551615) := by
 rw [span_work_div.eq_1]
 exact (by exact (show (0 ≤ (IntKind.u64.wrap ((a0.a.Lo).tdiv (gMax a0.b.Hi (1 : Int)))) ∧ (IntKind.u64.wrap ((a0.a.Lo).tdiv (gMax a0.b.Hi (1 : Int)))) ≤ 18446744073709551615) ∧ (0 ≤ (IntKind.u64.wrap ((a0.a.Hi).tdiv (gMax a0.b.Lo (1 : Int)))) ∧ (IntKind.u64.wrap ((a0.a.Hi).tdiv (gMax a0.b.Lo (1 : Int)))) ≤ 18446744073709551615) from ⟨(wrapU64 _), (wrapU64 _)⟩))

theorem span_work_div_any (a0 : Twork)   (w : World)  (_h_a0 : (0 ≤ a0.a.Lo ∧ a0.a.Lo ≤ 18446744073709551615) ∧ (0 ≤ a0.a.Hi ∧ a0.a.Hi ≤ 18446744073709551615) ∧ (0 ≤ a0.b.Lo ∧ a0.b.Lo ≤ 18446744073709551615) ∧ (0 ≤ a0.b.Hi ∧ a0.b.Hi ≤ 18446744073709551615) ∧ (0 ≤ a0.most ∧ a0.most ≤ 18446744073709551615) ∧ (0 ≤ a0.size ∧ a0.size ≤ 18446744073709551615))  : Calls Try.prog 79 #[.agg #[.int .u64 a0.a.Lo, .int .u64 a0.a.Hi, .int .u64 a0.b.Lo, .int .u64 a0.b.Hi, .bool a0.narrow, .int .u64 a0.most, .int .u64 a0.size]] w (RetV w (.agg #[.int .u64 (span_work_div a0).Lo, .int .u64 (span_work_div a0).Hi])) := by
 have hs := span_work_div.eq_1 a0
 refine calls_of_CW Try.func79 rfl (n := 20) Try.ntmps79 (by kernel_rfl) [0] (F := [(0, .agg #[.int .u64 a0.a.Lo, .int .u64 a0.a.Hi, .int .u64 a0.b.Lo, .int .u64 a0.b.Hi, .bool a0.narrow, .int .u64 a0.most, .int .u64 a0.size])]) (by kernel_rfl) ?_
 refine CW.seq fun K1 hK1 => ?_
 refine CW.region ?_
 refine WR.box (dst := some 1) (e := 79) (v := .agg #[.int .u64 a0.a.Lo, .int .u64 a0.a.Hi, .int .u64 a0.b.Lo, .int .u64 a0.b.Hi, .bool a0.narrow, .int .u64 a0.most, .int .u64 a0.size]) (by kernel_rfl) #[.int .u64 a0.a.Lo, .int .u64 a0.a.Hi, .int .u64 a0.b.Lo, .int .u64 a0.b.Hi, .bool a0.narrow, .int .u64 a0.most, .int .u64 a0.size] (by kernel_rfl) ?_
 intro g2 w3 hN4
 have hf6 : w.heap.size ≤ g2 := hN4.fresh
 have hfr8 := hN4.fresh
 have hc7 := hN4.chg
 have hz10 := hc7.size
 have hC9 := (Chg.refl [] w).pure hc7
 have hb5 := hN4.blk
 have hg11 := hb5.lt
 refine WR.alloc (dst := some 2) (e := 25) (by kernel_rfl) #[.int .u64 0, .int .u64 0] (by kernel_rfl) ?_
 intro g12 w13 hN14
 have hl17 : g2 < g12 := Nat.lt_of_lt_of_le hb5.lt hN14.fresh
 have hf16 : w.heap.size ≤ g12 := Nat.le_trans hC9.size hN14.fresh
 have hfr19 := hN14.fresh
 have hc18 := hN14.chg
 have hz21 := hc18.size
 have hC20 := hC9.pure hc18
 have hb22 := hb5.pure hc18
 have hb15 := hN14.blk
 have hg23 := hb15.lt
 refine WR.fin (by kernel_rfl) ?_
 refine go hK1 ?_
 refine CW.seq fun K24 hK24 => ?_
 refine CW.keep [1, 2] (F' := [(1, pt g2 0), (2, pt g12 0)]) (by kernel_rfl) ?_
 refine CW.regionG 17 [some (pt g2 0), some (pt g2 0), some (.int .u64 a0.a.Lo), some (pt g2 2), some (pt g2 3), some (.int .u64 a0.b.Hi), some (.int .u64 (gMax a0.b.Hi (1 : Int))), some (.int .u64 (IntKind.u64.wrap ((a0.a.Lo).tdiv (gMax a0.b.Hi (1 : Int))))), some (pt g2 0), some (pt g2 1), some (.int .u64 a0.a.Hi), some (pt g2 2), some (pt g2 2), some (.int .u64 a0.b.Lo), some (.int .u64 (gMax a0.b.Lo (1 : Int))), some (.int .u64 (IntKind.u64.wrap ((a0.a.Hi).tdiv (gMax a0.b.Lo (1 : Int))))), some (.agg #[.int .u64 (IntKind.u64.wrap ((a0.a.Lo).tdiv (gMax a0.b.Hi (1 : Int)))), .int .u64 (IntKind.u64.wrap ((a0.a.Hi).tdiv (gMax a0.b.Lo (1 : Int))))])] (fun u => [(3, pt g2 0), (4, pt g2 0), (5, .int .u64 a0.a.Lo), (6, pt g2 2), (7, pt g2 3), (8, .int .u64 a0.b.Hi), (9, .int .u64 (gMax a0.b.Hi (1 : Int))), (10, .int .u64 (IntKind.u64.wrap ((a0.a.Lo).tdiv (gMax a0.b.Hi (1 : Int))))), (11, pt g2 0), (12, pt g2 1), (13, .int .u64 a0.a.Hi), (14, pt g2 2), (15, pt g2 2), (16, .int .u64 a0.b.Lo), (17, .int .u64 (gMax a0.b.Lo (1 : Int))), (18, .int .u64 (IntKind.u64.wrap ((a0.a.Hi).tdiv (gMax a0.b.Lo (1 : Int))))), (19, .agg #[.int .u64 (IntKind.u64.wrap ((a0.a.Lo).tdiv (gMax a0.b.Hi (1 : Int)))), .int .u64 (IntKind.u64.wrap ((a0.a.Hi).tdiv (gMax a0.b.Lo (1 : Int))))]), (1, pt g2 0), (2, pt g12 0)]) (fun _ => by kernel_rfl) (by kernel_rfl) [] (fun _ _ => True) (fun _ => trivial) (fun _ _ _ _ _ _ _ => trivial) [] [] (by kernel_rfl) (fun w' => Chg [] w13 w') (fun _ _ _ => True) (fun j x w hj h => absurd hj (by simp)) (by kernel_rfl) (by kernel_rfl) (by kernel_rfl) (by kernel_rfl) (Chg.drew w13) (fun _ _ _ h h' => h.step h' (fun t ht => .inl (cL_sub t ht))) (fun _ _ _ _ _ _ _ _ => trivial) (obsG_batch 2 0 15 (fun _ _ => by kernel_rfl) (by kernel_rfl) ⟨?_, (obsG_batch 2 3 12 (fun _ _ => by kernel_rfl) (by kernel_rfl) ⟨?_, (obsG_batch 1 6 10 (fun _ _ => by kernel_rfl) (by kernel_rfl) ⟨?_, (obsG_batch 2 8 7 (fun _ _ => by kernel_rfl) (by kernel_rfl) ⟨?_, (obsG_batch 2 11 4 (fun _ _ => by kernel_rfl) (by kernel_rfl) ⟨?_, (obsG_batch 1 14 2 (fun _ _ => by kernel_rfl) (by kernel_rfl) ⟨?_, (obsG_batch 1 16 0 (fun _ _ => by kernel_rfl) (by kernel_rfl) trivial)⟩)⟩)⟩)⟩)⟩)⟩) ?_
 ·
  intro u25 w26 hW27 _ hp28 hal29
  have hz32 := hW27.size
  have hC31 := hC20.pure hW27
  have hb33 := hb22.pure hW27
  have hb34 := hb15.pure hW27
  refine WR.load (dst := some 5) (t := 23) (o := 0) hb33 (by kernel_rfl) (.int .u64 a0.a.Lo) (by kernel_rfl) ?_
  refine WR.fin (by kernel_rfl) ?_
  exact fun _ ha => ⟨Chg.refl _ _, _, ha, ⟨⟨fun h => absurd h (by decide), alNone (by decide)⟩, rfl⟩⟩
 ·
  intro u35 w36 hW37 _ hp38 hal39
  have hz42 := hW37.size
  have hC41 := hC20.pure hW37
  have hb43 := hb22.pure hW37
  have hb44 := hb15.pure hW37
  refine WR.load (dst := some 8) (t := 23) (o := 3) hb43 (by kernel_rfl) (.int .u64 a0.b.Hi) (by kernel_rfl) ?_
  refine WR.fin (by kernel_rfl) ?_
  exact fun _ ha => ⟨Chg.refl _ _, _, ha, ⟨⟨fun h => absurd h (by decide), alNone (by decide)⟩, rfl⟩⟩
 ·
  intro u45 w46 hW47 _ hp48 hal49
  have hz52 := hW47.size
  have hC51 := hC20.pure hW47
  have hb53 := hb22.pure hW47
  have hb54 := hb15.pure hW47
  refine WR.valR (dst := some 10) (v := .int .u64 (IntKind.u64.wrap ((a0.a.Lo).tdiv (gMax a0.b.Hi (1 : Int))))) (w' := w46) (run_quo (kk := .u64) (x := a0.a.Lo) (y := (gMax a0.b.Hi (1 : Int))) (by kernel_rfl) (by simp only [gMax_eq]; omega) w46) ?_
  refine WR.fin (by kernel_rfl) ?_
  exact fun _ ha => ⟨Chg.refl _ _, _, ha, ⟨⟨fun h => absurd h (by decide), alNone (by decide)⟩, rfl⟩⟩
 ·
  intro u55 w56 hW57 _ hp58 hal59
  have hz62 := hW57.size
  have hC61 := hC20.pure hW57
  have hb63 := hb22.pure hW57
  have hb64 := hb15.pure hW57
  refine WR.load (dst := some 13) (t := 23) (o := 1) hb63 (by kernel_rfl) (.int .u64 a0.a.Hi) (by kernel_rfl) ?_
  refine WR.fin (by kernel_rfl) ?_
  exact fun _ ha => ⟨Chg.refl _ _, _, ha, ⟨⟨fun h => absurd h (by decide), alNone (by decide)⟩, rfl⟩⟩
 ·
  intro u65 w66 hW67 _ hp68 hal69
  have hz72 := hW67.size
  have hC71 := hC20.pure hW67
  have hb73 := hb22.pure hW67
  have hb74 := hb15.pure hW67
  refine WR.load (dst := some 16) (t := 23) (o := 2) hb73 (by kernel_rfl) (.int .u64 a0.b.Lo) (by kernel_rfl) ?_
  refine WR.fin (by kernel_rfl) ?_
  exact fun _ ha => ⟨Chg.refl _ _, _, ha, ⟨⟨fun h => absurd h (by decide), alNone (by decide)⟩, rfl⟩⟩
 ·
  intro u75 w76 hW77 _ hp78 hal79
  have hz82 := hW77.size
  have hC81 := hC20.pure hW77
  have hb83 := hb22.pure hW77
  have hb84 := hb15.pure hW77
  refine WR.valR (dst := some 18) (v := .int .u64 (IntKind.u64.wrap ((a0.a.Hi).tdiv (gMax a0.b.Lo (1 : Int))))) (w' := w76) (run_quo (kk := .u64) (x := a0.a.Hi) (y := (gMax a0.b.Lo (1 : Int))) (by kernel_rfl) (by simp only [gMax_eq]; omega) w76) ?_
  refine WR.fin (by kernel_rfl) ?_
  exact fun _ ha => ⟨Chg.refl _ _, _, ha, ⟨⟨fun h => absurd h (by decide), alNone (by decide)⟩, rfl⟩⟩
 intro u85 w86 hW87 _ _ _
 have hz92 := hW87.size
 have hC91 := hC20.pure hW87
 have hb93 := hb22.pure hW87
 have hb94 := hb15.pure hW87
 refine WR.keep [2, 19] (F' := [(2, pt g12 0), (19, .agg #[.int .u64 (IntKind.u64.wrap ((a0.a.Lo).tdiv (gMax a0.b.Hi (1 : Int)))), .int .u64 (IntKind.u64.wrap ((a0.a.Hi).tdiv (gMax a0.b.Lo (1 : Int))))])]) (by kernel_rfl) ?_
 refine WR.store (t := 25) (o := 0) (v := .agg #[.int .u64 (IntKind.u64.wrap ((a0.a.Lo).tdiv (gMax a0.b.Hi (1 : Int)))), .int .u64 (IntKind.u64.wrap ((a0.a.Hi).tdiv (gMax a0.b.Lo (1 : Int))))]) hb94 (by kernel_rfl) #[.int .u64 (IntKind.u64.wrap ((a0.a.Lo).tdiv (gMax a0.b.Hi (1 : Int)))), .int .u64 (IntKind.u64.wrap ((a0.a.Hi).tdiv (gMax a0.b.Lo (1 : Int))))] (by kernel_rfl) ?_
 intro w95 hb96 hc97
 have hz99 := hc97.size
 have hC98 := hC91.step1 hc97 (by omega)
 have hb100 := hb93.chg1 hc97 (by omega)
 refine WR.fin (by kernel_rfl) ?_
 refine go hK24 ?_
 refine CW.ret ?_
 exact retC [.agg #[.int .u64 (IntKind.u64.wrap ((a0.a.Lo).tdiv (gMax a0.b.Hi (1 : Int)))), .int .u64 (IntKind.u64.wrap ((a0.a.Hi).tdiv (gMax a0.b.Lo (1 : Int))))]] (.agg #[.int .u64 (IntKind.u64.wrap ((a0.a.Lo).tdiv (gMax a0.b.Hi (1 : Int)))), .int .u64 (IntKind.u64.wrap ((a0.a.Hi).tdiv (gMax a0.b.Lo (1 : Int))))]) rfl ⟨resCell hb96 rfl (by kernel_rfl), trivial⟩ (⟨hC98, (congrArg (fun r : TSpan => (.agg #[.int .u64 r.Lo, .int .u64 r.Hi] : Value)) hs).symm⟩)

def span_work_mod (a0 : Twork)  : TSpan := (if decide (a0.a.Hi < (gMax a0.b.Lo (1 : Int))) then a0.a else (⟨(0 : Int), (gMin a0.a.Hi (IntKind.u64.wrap ((gMax a0.b.Hi (1 : Int)) - (1 : Int))))⟩ : TSpan))

theorem span_work_mod_ok (a0 : Twork)  (_h_a0 : (0 ≤ a0.a.Lo ∧ a0.a.Lo ≤ 18446744073709551615) ∧ (0 ≤ a0.a.Hi ∧ a0.a.Hi ≤ 18446744073709551615) ∧ (0 ≤ a0.b.Lo ∧ a0.b.Lo ≤ 18446744073709551615) ∧ (0 ≤ a0.b.Hi ∧ a0.b.Hi ≤ 18446744073709551615) ∧ (0 ≤ a0.most ∧ a0.most ≤ 18446744073709551615) ∧ (0 ≤ a0.size ∧ a0.size ≤ 18446744073709551615))  : (0 ≤ (span_work_mod a0).Lo ∧ (span_work_mod a0).Lo ≤ 18446744073709551615) ∧ (0 ≤ (span_work_mod a0).Hi ∧ (span_work_mod a0).Hi ≤ 18446744073709551615) := by
 rw [span_work_mod.eq_1]
 refine iteR (p := fun r : TSpan => (0 ≤ r.Lo ∧ r.Lo ≤ 18446744073709551615) ∧ (0 ≤ r.Hi ∧ r.Hi ≤ 18446744073709551615)) (fun hi1001 => ?_) (fun hi1001 => ?_)
 ·
  replace hi1001 : a0.a.Hi < (gMax a0.b.Lo (1 : Int)) := (of_decide_eq_true hi1001)
  exact (by exact (show (0 ≤ a0.a.Lo ∧ a0.a.Lo ≤ 18446744073709551615) ∧ (0 ≤ a0.a.Hi ∧ a0.a.Hi ≤ 18446744073709551615) from ⟨(by omega), (by omega)⟩))
 replace hi1001 : ¬ (a0.a.Hi < (gMax a0.b.Lo (1 : Int))) := (of_decide_eq_false hi1001)
 exact (by exact (show (0 ≤ (0 : Int) ∧ (0 : Int) ≤ 18446744073709551615) ∧ (0 ≤ (gMin a0.a.Hi (IntKind.u64.wrap ((gMax a0.b.Hi (1 : Int)) - (1 : Int)))) ∧ (gMin a0.a.Hi (IntKind.u64.wrap ((gMax a0.b.Hi (1 : Int)) - (1 : Int)))) ≤ 18446744073709551615) from ⟨(by omega), (gMin_rng (by omega) (wrapU64 _))⟩))

theorem span_work_mod_any (a0 : Twork)   (w : World)  (_h_a0 : (0 ≤ a0.a.Lo ∧ a0.a.Lo ≤ 18446744073709551615) ∧ (0 ≤ a0.a.Hi ∧ a0.a.Hi ≤ 18446744073709551615) ∧ (0 ≤ a0.b.Lo ∧ a0.b.Lo ≤ 18446744073709551615) ∧ (0 ≤ a0.b.Hi ∧ a0.b.Hi ≤ 18446744073709551615) ∧ (0 ≤ a0.most ∧ a0.most ≤ 18446744073709551615) ∧ (0 ≤ a0.size ∧ a0.size ≤ 18446744073709551615))  : Calls Try.prog 80 #[.agg #[.int .u64 a0.a.Lo, .int .u64 a0.a.Hi, .int .u64 a0.b.Lo, .int .u64 a0.b.Hi, .bool a0.narrow, .int .u64 a0.most, .int .u64 a0.size]] w (RetV w (.agg #[.int .u64 (span_work_mod a0).Lo, .int .u64 (span_work_mod a0).Hi])) := by
 have hs := span_work_mod.eq_1 a0
 refine calls_of_CW Try.func80 rfl (n := 23) Try.ntmps80 (by kernel_rfl) [0] (F := [(0, .agg #[.int .u64 a0.a.Lo, .int .u64 a0.a.Hi, .int .u64 a0.b.Lo, .int .u64 a0.b.Hi, .bool a0.narrow, .int .u64 a0.most, .int .u64 a0.size])]) (by kernel_rfl) ?_
 refine CW.seq fun K1 hK1 => ?_
 refine CW.region ?_
 refine WR.box (dst := some 1) (e := 79) (v := .agg #[.int .u64 a0.a.Lo, .int .u64 a0.a.Hi, .int .u64 a0.b.Lo, .int .u64 a0.b.Hi, .bool a0.narrow, .int .u64 a0.most, .int .u64 a0.size]) (by kernel_rfl) #[.int .u64 a0.a.Lo, .int .u64 a0.a.Hi, .int .u64 a0.b.Lo, .int .u64 a0.b.Hi, .bool a0.narrow, .int .u64 a0.most, .int .u64 a0.size] (by kernel_rfl) ?_
 intro g2 w3 hN4
 have hf6 : w.heap.size ≤ g2 := hN4.fresh
 have hfr8 := hN4.fresh
 have hc7 := hN4.chg
 have hz10 := hc7.size
 have hC9 := (Chg.refl [] w).pure hc7
 have hb5 := hN4.blk
 have hg11 := hb5.lt
 refine WR.alloc (dst := some 2) (e := 25) (by kernel_rfl) #[.int .u64 0, .int .u64 0] (by kernel_rfl) ?_
 intro g12 w13 hN14
 have hl17 : g2 < g12 := Nat.lt_of_lt_of_le hb5.lt hN14.fresh
 have hf16 : w.heap.size ≤ g12 := Nat.le_trans hC9.size hN14.fresh
 have hfr19 := hN14.fresh
 have hc18 := hN14.chg
 have hz21 := hc18.size
 have hC20 := hC9.pure hc18
 have hb22 := hb5.pure hc18
 have hb15 := hN14.blk
 have hg23 := hb15.lt
 refine WR.fin (by kernel_rfl) ?_
 refine go hK1 ?_
 refine CW.seq fun K24 hK24 => ?_
 refine CW.seq fun K25 hK25 => ?_
 refine CW.region ?_
 refine WR.batch 2 [(1, pt g2 0), (2, pt g12 0), (4, pt g2 1)] (by kernel_rfl) ?_
 refine WR.load (dst := some 5) (t := 23) (o := 1) hb22 (by kernel_rfl) (.int .u64 a0.a.Hi) (by kernel_rfl) ?_
 refine WR.batch 2 [(1, pt g2 0), (2, pt g12 0), (5, .int .u64 a0.a.Hi), (7, pt g2 2)] (by kernel_rfl) ?_
 refine WR.load (dst := some 8) (t := 23) (o := 2) hb22 (by kernel_rfl) (.int .u64 a0.b.Lo) (by kernel_rfl) ?_
 refine WR.batch 2 [(1, pt g2 0), (2, pt g12 0), (10, .bool (decide (a0.a.Hi < (gMax a0.b.Lo (1 : Int)))))] (by kernel_rfl) ?_
 refine WR.fin (by kernel_rfl) ?_
 refine go hK25 ?_
 refine CW.cond (decide (a0.a.Hi < (gMax a0.b.Lo (1 : Int)))) (by kernel_rfl) (fun ht26 => ?_) (fun ht26 => ?_)
 ·
  have hs27 := ifT ht26 hs
  replace ht26 : a0.a.Hi < (gMax a0.b.Lo (1 : Int)) := (of_decide_eq_true ht26)
  refine CW.seq fun K28 hK28 => ?_
  refine CW.region ?_
  refine WR.batch 1 [(2, pt g12 0), (11, pt g2 0)] (by kernel_rfl) ?_
  refine WR.load (dst := some 12) (t := 25) (o := 0) hb22 (by kernel_rfl) (.agg #[.int .u64 a0.a.Lo, .int .u64 a0.a.Hi]) (by kernel_rfl) ?_
  refine WR.store (t := 25) (o := 0) (v := .agg #[.int .u64 a0.a.Lo, .int .u64 a0.a.Hi]) hb15 (by kernel_rfl) #[.int .u64 a0.a.Lo, .int .u64 a0.a.Hi] (by kernel_rfl) ?_
  intro w29 hb30 hc31
  have hz33 := hc31.size
  have hC32 := hC20.step1 hc31 (by omega)
  have hb34 := hb22.chg1 hc31 (by omega)
  refine WR.fin (by kernel_rfl) ?_
  refine go hK28 ?_
  refine CW.ret ?_
  exact retC [.agg #[.int .u64 a0.a.Lo, .int .u64 a0.a.Hi]] (.agg #[.int .u64 a0.a.Lo, .int .u64 a0.a.Hi]) rfl ⟨resCell hb30 rfl (by kernel_rfl), trivial⟩ (⟨hC32, (congrArg (fun r : TSpan => (.agg #[.int .u64 r.Lo, .int .u64 r.Hi] : Value)) hs27).symm⟩)
 have hs35 := ifF ht26 hs
 replace ht26 : ¬ (a0.a.Hi < (gMax a0.b.Lo (1 : Int))) := (of_decide_eq_false ht26)
 refine CW.skip ?_
 refine go hK24 ?_
 refine CW.seq fun K36 hK36 => ?_
 refine CW.region ?_
 refine WR.batch 2 [(1, pt g2 0), (2, pt g12 0), (14, pt g2 1)] (by kernel_rfl) ?_
 refine WR.load (dst := some 15) (t := 23) (o := 1) hb22 (by kernel_rfl) (.int .u64 a0.a.Hi) (by kernel_rfl) ?_
 refine WR.batch 2 [(2, pt g12 0), (15, .int .u64 a0.a.Hi), (17, pt g2 3)] (by kernel_rfl) ?_
 refine WR.load (dst := some 18) (t := 23) (o := 3) hb22 (by kernel_rfl) (.int .u64 a0.b.Hi) (by kernel_rfl) ?_
 refine WR.batch 4 [(2, pt g12 0), (22, .agg #[.int .u64 0, .int .u64 (gMin a0.a.Hi (IntKind.u64.wrap ((gMax a0.b.Hi (1 : Int)) - (1 : Int))))])] (by kernel_rfl) ?_
 refine WR.store (t := 25) (o := 0) (v := .agg #[.int .u64 0, .int .u64 (gMin a0.a.Hi (IntKind.u64.wrap ((gMax a0.b.Hi (1 : Int)) - (1 : Int))))]) hb15 (by kernel_rfl) #[.int .u64 0, .int .u64 (gMin a0.a.Hi (IntKind.u64.wrap ((gMax a0.b.Hi (1 : Int)) - (1 : Int))))] (by kernel_rfl) ?_
 intro w37 hb38 hc39
 have hz41 := hc39.size
 have hC40 := hC20.step1 hc39 (by omega)
 have hb42 := hb22.chg1 hc39 (by omega)
 refine WR.fin (by kernel_rfl) ?_
 refine go hK36 ?_
 refine CW.ret ?_
 exact retC [.agg #[.int .u64 0, .int .u64 (gMin a0.a.Hi (IntKind.u64.wrap ((gMax a0.b.Hi (1 : Int)) - (1 : Int))))]] (.agg #[.int .u64 0, .int .u64 (gMin a0.a.Hi (IntKind.u64.wrap ((gMax a0.b.Hi (1 : Int)) - (1 : Int))))]) rfl ⟨resCell hb38 rfl (by kernel_rfl), trivial⟩ (⟨hC40, (congrArg (fun r : TSpan => (.agg #[.int .u64 r.Lo, .int .u64 r.Hi] : Value)) hs35).symm⟩)

def span_work_and (a0 : Twork)  : TSpan := (letF (span_work_both a0) fun x26 => (if x26 then (letF (span_Of (bAnd .u64 a0.a.Lo a0.b.Lo)) fun x38 => x38) else (⟨(0 : Int), (gMin a0.a.Hi a0.b.Hi)⟩ : TSpan)))

theorem span_work_and_ok (a0 : Twork)  (_h_a0 : (0 ≤ a0.a.Lo ∧ a0.a.Lo ≤ 18446744073709551615) ∧ (0 ≤ a0.a.Hi ∧ a0.a.Hi ≤ 18446744073709551615) ∧ (0 ≤ a0.b.Lo ∧ a0.b.Lo ≤ 18446744073709551615) ∧ (0 ≤ a0.b.Hi ∧ a0.b.Hi ≤ 18446744073709551615) ∧ (0 ≤ a0.most ∧ a0.most ≤ 18446744073709551615) ∧ (0 ≤ a0.size ∧ a0.size ≤ 18446744073709551615))  : (0 ≤ (span_work_and a0).Lo ∧ (span_work_and a0).Lo ≤ 18446744073709551615) ∧ (0 ≤ (span_work_and a0).Hi ∧ (span_work_and a0).Hi ≤ 18446744073709551615) := by
 rw [span_work_and.eq_1]
 refine letR (p := fun r : TSpan => (0 ≤ r.Lo ∧ r.Lo ≤ 18446744073709551615) ∧ (0 ≤ r.Hi ∧ r.Hi ≤ 18446744073709551615)) fun x26 _ => ?_
 refine iteR (p := fun r : TSpan => (0 ≤ r.Lo ∧ r.Lo ≤ 18446744073709551615) ∧ (0 ≤ r.Hi ∧ r.Hi ≤ 18446744073709551615)) (fun hi1001 => ?_) (fun hi1001 => ?_)
 ·
  refine letR (p := fun r : TSpan => (0 ≤ r.Lo ∧ r.Lo ≤ 18446744073709551615) ∧ (0 ≤ r.Hi ∧ r.Hi ≤ 18446744073709551615)) fun x38 hx39 => ?_
  have hx40 : (0 ≤ x38.Lo ∧ x38.Lo ≤ 18446744073709551615) ∧ (0 ≤ x38.Hi ∧ x38.Hi ≤ 18446744073709551615) := by rw [← hx39]; exact span_Of_ok (bAnd .u64 a0.a.Lo a0.b.Lo) (wrapU64 _) 
  exact (by exact (show (0 ≤ x38.Lo ∧ x38.Lo ≤ 18446744073709551615) ∧ (0 ≤ x38.Hi ∧ x38.Hi ≤ 18446744073709551615) from ⟨(by omega), (by omega)⟩))
 exact (by exact (show (0 ≤ (0 : Int) ∧ (0 : Int) ≤ 18446744073709551615) ∧ (0 ≤ (gMin a0.a.Hi a0.b.Hi) ∧ (gMin a0.a.Hi a0.b.Hi) ≤ 18446744073709551615) from ⟨(by omega), (gMin_rng (by omega) (by omega))⟩))

theorem span_work_and_any (a0 : Twork)   (w : World)  (_h_a0 : (0 ≤ a0.a.Lo ∧ a0.a.Lo ≤ 18446744073709551615) ∧ (0 ≤ a0.a.Hi ∧ a0.a.Hi ≤ 18446744073709551615) ∧ (0 ≤ a0.b.Lo ∧ a0.b.Lo ≤ 18446744073709551615) ∧ (0 ≤ a0.b.Hi ∧ a0.b.Hi ≤ 18446744073709551615) ∧ (0 ≤ a0.most ∧ a0.most ≤ 18446744073709551615) ∧ (0 ≤ a0.size ∧ a0.size ≤ 18446744073709551615))  : Calls Try.prog 81 #[.agg #[.int .u64 a0.a.Lo, .int .u64 a0.a.Hi, .int .u64 a0.b.Lo, .int .u64 a0.b.Hi, .bool a0.narrow, .int .u64 a0.most, .int .u64 a0.size]] w (RetV w (.agg #[.int .u64 (span_work_and a0).Lo, .int .u64 (span_work_and a0).Hi])) := by
 have hs := span_work_and.eq_1 a0
 refine calls_of_CW Try.func81 rfl (n := 21) Try.ntmps81 (by kernel_rfl) [0] (F := [(0, .agg #[.int .u64 a0.a.Lo, .int .u64 a0.a.Hi, .int .u64 a0.b.Lo, .int .u64 a0.b.Hi, .bool a0.narrow, .int .u64 a0.most, .int .u64 a0.size])]) (by kernel_rfl) ?_
 refine CW.seq fun K1 hK1 => ?_
 refine CW.region ?_
 refine WR.box (dst := some 1) (e := 79) (v := .agg #[.int .u64 a0.a.Lo, .int .u64 a0.a.Hi, .int .u64 a0.b.Lo, .int .u64 a0.b.Hi, .bool a0.narrow, .int .u64 a0.most, .int .u64 a0.size]) (by kernel_rfl) #[.int .u64 a0.a.Lo, .int .u64 a0.a.Hi, .int .u64 a0.b.Lo, .int .u64 a0.b.Hi, .bool a0.narrow, .int .u64 a0.most, .int .u64 a0.size] (by kernel_rfl) ?_
 intro g2 w3 hN4
 have hf6 : w.heap.size ≤ g2 := hN4.fresh
 have hfr8 := hN4.fresh
 have hc7 := hN4.chg
 have hz10 := hc7.size
 have hC9 := (Chg.refl [] w).pure hc7
 have hb5 := hN4.blk
 have hg11 := hb5.lt
 refine WR.alloc (dst := some 2) (e := 25) (by kernel_rfl) #[.int .u64 0, .int .u64 0] (by kernel_rfl) ?_
 intro g12 w13 hN14
 have hl17 : g2 < g12 := Nat.lt_of_lt_of_le hb5.lt hN14.fresh
 have hf16 : w.heap.size ≤ g12 := Nat.le_trans hC9.size hN14.fresh
 have hfr19 := hN14.fresh
 have hc18 := hN14.chg
 have hz21 := hc18.size
 have hC20 := hC9.pure hc18
 have hb22 := hb5.pure hc18
 have hb15 := hN14.blk
 have hg23 := hb15.lt
 refine WR.fin (by kernel_rfl) ?_
 refine go hK1 ?_
 refine CW.seq fun K24 hK24 => ?_
 refine CW.seq fun K25 hK25 => ?_
 refine CW.region ?_
 refine WR.load (dst := some 3) (t := 79) (o := 0) hb22 (by kernel_rfl) (.agg #[.int .u64 a0.a.Lo, .int .u64 a0.a.Hi, .int .u64 a0.b.Lo, .int .u64 a0.b.Hi, .bool a0.narrow, .int .u64 a0.most, .int .u64 a0.size]) (by kernel_rfl) ?_
 obtain ⟨x26, hx27⟩ : ∃ x, span_work_both a0 = x := ⟨_, rfl⟩
 have hs28 := letS hx27 hs
 refine WR.call (dst := some 4) (by kernel_rfl) (retE (g := fun r : Bool => (.bool r : Value)) hx27 (span_work_both_any a0 w13  ⟨(by omega), (by omega), (by omega), (by omega), (by omega), (by omega)⟩ )) ?_
 rintro _ w29 hc30 rfl
 have hz32 := hc30.size
 have hC31 := hC20.pure hc30
 have hb33 := hb22.pure hc30
 have hb34 := hb15.pure hc30
 refine WR.fin (by kernel_rfl) ?_
 refine go hK25 ?_
 refine CW.cond (x26) (by kernel_rfl) (fun ht35 => ?_) (fun ht35 => ?_)
 ·
  have hs36 := ifT ht35 hs28
  refine CW.seq fun K37 hK37 => ?_
  refine CW.region ?_
  refine WR.batch 2 [(1, pt g2 0), (2, pt g12 0), (6, pt g2 0)] (by kernel_rfl) ?_
  refine WR.load (dst := some 7) (t := 23) (o := 0) hb33 (by kernel_rfl) (.int .u64 a0.a.Lo) (by kernel_rfl) ?_
  refine WR.batch 2 [(2, pt g12 0), (7, .int .u64 a0.a.Lo), (9, pt g2 2)] (by kernel_rfl) ?_
  refine WR.load (dst := some 10) (t := 23) (o := 2) hb33 (by kernel_rfl) (.int .u64 a0.b.Lo) (by kernel_rfl) ?_
  refine WR.batch 1 [(2, pt g12 0), (11, .int .u64 (bAnd .u64 a0.a.Lo a0.b.Lo))] (by kernel_rfl) ?_
  obtain ⟨x38, hx39⟩ : ∃ x, span_Of (bAnd .u64 a0.a.Lo a0.b.Lo) = x := ⟨_, rfl⟩
  have hs41 := letS hx39 hs36
  have hx42 : (0 ≤ x38.Lo ∧ x38.Lo ≤ 18446744073709551615) ∧ (0 ≤ x38.Hi ∧ x38.Hi ≤ 18446744073709551615) := by rw [← hx39]; exact span_Of_ok (bAnd .u64 a0.a.Lo a0.b.Lo) (wrapU64 _) 
  refine WR.call (dst := some 12) (by kernel_rfl) (retE (g := fun r : TSpan => (.agg #[.int .u64 r.Lo, .int .u64 r.Hi] : Value)) hx39 (span_Of_any (bAnd .u64 a0.a.Lo a0.b.Lo) w29  (wrapU64 _) )) ?_
  rintro _ w43 hc44 rfl
  have hz46 := hc44.size
  have hC45 := hC31.pure hc44
  have hb47 := hb33.pure hc44
  have hb48 := hb34.pure hc44
  refine WR.store (t := 25) (o := 0) (v := .agg #[.int .u64 x38.Lo, .int .u64 x38.Hi]) hb48 (by kernel_rfl) #[.int .u64 x38.Lo, .int .u64 x38.Hi] (by kernel_rfl) ?_
  intro w49 hb50 hc51
  have hz53 := hc51.size
  have hC52 := hC45.step1 hc51 (by omega)
  have hb54 := hb47.chg1 hc51 (by omega)
  refine WR.fin (by kernel_rfl) ?_
  refine go hK37 ?_
  refine CW.ret ?_
  exact retC [.agg #[.int .u64 x38.Lo, .int .u64 x38.Hi]] (.agg #[.int .u64 x38.Lo, .int .u64 x38.Hi]) rfl ⟨resCell hb50 rfl (by kernel_rfl), trivial⟩ (⟨hC52, (congrArg (fun r : TSpan => (.agg #[.int .u64 r.Lo, .int .u64 r.Hi] : Value)) hs41).symm⟩)
 have hs55 := ifF ht35 hs28
 refine CW.skip ?_
 refine go hK24 ?_
 refine CW.seq fun K56 hK56 => ?_
 refine CW.region ?_
 refine WR.batch 2 [(1, pt g2 0), (2, pt g12 0), (14, pt g2 1)] (by kernel_rfl) ?_
 refine WR.load (dst := some 15) (t := 23) (o := 1) hb33 (by kernel_rfl) (.int .u64 a0.a.Hi) (by kernel_rfl) ?_
 refine WR.batch 2 [(2, pt g12 0), (15, .int .u64 a0.a.Hi), (17, pt g2 3)] (by kernel_rfl) ?_
 refine WR.load (dst := some 18) (t := 23) (o := 3) hb33 (by kernel_rfl) (.int .u64 a0.b.Hi) (by kernel_rfl) ?_
 refine WR.batch 2 [(2, pt g12 0), (20, .agg #[.int .u64 0, .int .u64 (gMin a0.a.Hi a0.b.Hi)])] (by kernel_rfl) ?_
 refine WR.store (t := 25) (o := 0) (v := .agg #[.int .u64 0, .int .u64 (gMin a0.a.Hi a0.b.Hi)]) hb34 (by kernel_rfl) #[.int .u64 0, .int .u64 (gMin a0.a.Hi a0.b.Hi)] (by kernel_rfl) ?_
 intro w57 hb58 hc59
 have hz61 := hc59.size
 have hC60 := hC31.step1 hc59 (by omega)
 have hb62 := hb33.chg1 hc59 (by omega)
 refine WR.fin (by kernel_rfl) ?_
 refine go hK56 ?_
 refine CW.ret ?_
 exact retC [.agg #[.int .u64 0, .int .u64 (gMin a0.a.Hi a0.b.Hi)]] (.agg #[.int .u64 0, .int .u64 (gMin a0.a.Hi a0.b.Hi)]) rfl ⟨resCell hb58 rfl (by kernel_rfl), trivial⟩ (⟨hC60, (congrArg (fun r : TSpan => (.agg #[.int .u64 r.Lo, .int .u64 r.Hi] : Value)) hs55).symm⟩)

def span_work_mov (a0 : Twork)  : TSpan := a0.b

theorem span_work_mov_ok (a0 : Twork)  (_h_a0 : (0 ≤ a0.a.Lo ∧ a0.a.Lo ≤ 18446744073709551615) ∧ (0 ≤ a0.a.Hi ∧ a0.a.Hi ≤ 18446744073709551615) ∧ (0 ≤ a0.b.Lo ∧ a0.b.Lo ≤ 18446744073709551615) ∧ (0 ≤ a0.b.Hi ∧ a0.b.Hi ≤ 18446744073709551615) ∧ (0 ≤ a0.most ∧ a0.most ≤ 18446744073709551615) ∧ (0 ≤ a0.size ∧ a0.size ≤ 18446744073709551615))  : (0 ≤ (span_work_mov a0).Lo ∧ (span_work_mov a0).Lo ≤ 18446744073709551615) ∧ (0 ≤ (span_work_mov a0).Hi ∧ (span_work_mov a0).Hi ≤ 18446744073709551615) := by
 rw [span_work_mov.eq_1]
 exact (by exact (show (0 ≤ a0.b.Lo ∧ a0.b.Lo ≤ 18446744073709551615) ∧ (0 ≤ a0.b.Hi ∧ a0.b.Hi ≤ 18446744073709551615) from ⟨(by omega), (by omega)⟩))

theorem span_work_mov_any (a0 : Twork)   (w : World)  (_h_a0 : (0 ≤ a0.a.Lo ∧ a0.a.Lo ≤ 18446744073709551615) ∧ (0 ≤ a0.a.Hi ∧ a0.a.Hi ≤ 18446744073709551615) ∧ (0 ≤ a0.b.Lo ∧ a0.b.Lo ≤ 18446744073709551615) ∧ (0 ≤ a0.b.Hi ∧ a0.b.Hi ≤ 18446744073709551615) ∧ (0 ≤ a0.most ∧ a0.most ≤ 18446744073709551615) ∧ (0 ≤ a0.size ∧ a0.size ≤ 18446744073709551615))  : Calls Try.prog 87 #[.agg #[.int .u64 a0.a.Lo, .int .u64 a0.a.Hi, .int .u64 a0.b.Lo, .int .u64 a0.b.Hi, .bool a0.narrow, .int .u64 a0.most, .int .u64 a0.size]] w (RetV w (.agg #[.int .u64 (span_work_mov a0).Lo, .int .u64 (span_work_mov a0).Hi])) := by
 have hs := span_work_mov.eq_1 a0
 refine calls_of_CW Try.func87 rfl (n := 5) Try.ntmps87 (by kernel_rfl) [0] (F := [(0, .agg #[.int .u64 a0.a.Lo, .int .u64 a0.a.Hi, .int .u64 a0.b.Lo, .int .u64 a0.b.Hi, .bool a0.narrow, .int .u64 a0.most, .int .u64 a0.size])]) (by kernel_rfl) ?_
 refine CW.seq fun K1 hK1 => ?_
 refine CW.region ?_
 refine WR.box (dst := some 1) (e := 79) (v := .agg #[.int .u64 a0.a.Lo, .int .u64 a0.a.Hi, .int .u64 a0.b.Lo, .int .u64 a0.b.Hi, .bool a0.narrow, .int .u64 a0.most, .int .u64 a0.size]) (by kernel_rfl) #[.int .u64 a0.a.Lo, .int .u64 a0.a.Hi, .int .u64 a0.b.Lo, .int .u64 a0.b.Hi, .bool a0.narrow, .int .u64 a0.most, .int .u64 a0.size] (by kernel_rfl) ?_
 intro g2 w3 hN4
 have hf6 : w.heap.size ≤ g2 := hN4.fresh
 have hfr8 := hN4.fresh
 have hc7 := hN4.chg
 have hz10 := hc7.size
 have hC9 := (Chg.refl [] w).pure hc7
 have hb5 := hN4.blk
 have hg11 := hb5.lt
 refine WR.alloc (dst := some 2) (e := 25) (by kernel_rfl) #[.int .u64 0, .int .u64 0] (by kernel_rfl) ?_
 intro g12 w13 hN14
 have hl17 : g2 < g12 := Nat.lt_of_lt_of_le hb5.lt hN14.fresh
 have hf16 : w.heap.size ≤ g12 := Nat.le_trans hC9.size hN14.fresh
 have hfr19 := hN14.fresh
 have hc18 := hN14.chg
 have hz21 := hc18.size
 have hC20 := hC9.pure hc18
 have hb22 := hb5.pure hc18
 have hb15 := hN14.blk
 have hg23 := hb15.lt
 refine WR.fin (by kernel_rfl) ?_
 refine go hK1 ?_
 refine CW.seq fun K24 hK24 => ?_
 refine CW.region ?_
 refine WR.batch 1 [(2, pt g12 0), (3, pt g2 2)] (by kernel_rfl) ?_
 refine WR.load (dst := some 4) (t := 25) (o := 2) hb22 (by kernel_rfl) (.agg #[.int .u64 a0.b.Lo, .int .u64 a0.b.Hi]) (by kernel_rfl) ?_
 refine WR.store (t := 25) (o := 0) (v := .agg #[.int .u64 a0.b.Lo, .int .u64 a0.b.Hi]) hb15 (by kernel_rfl) #[.int .u64 a0.b.Lo, .int .u64 a0.b.Hi] (by kernel_rfl) ?_
 intro w25 hb26 hc27
 have hz29 := hc27.size
 have hC28 := hC20.step1 hc27 (by omega)
 have hb30 := hb22.chg1 hc27 (by omega)
 refine WR.fin (by kernel_rfl) ?_
 refine go hK24 ?_
 refine CW.ret ?_
 exact retC [.agg #[.int .u64 a0.b.Lo, .int .u64 a0.b.Hi]] (.agg #[.int .u64 a0.b.Lo, .int .u64 a0.b.Hi]) rfl ⟨resCell hb26 rfl (by kernel_rfl), trivial⟩ (⟨hC28, (congrArg (fun r : TSpan => (.agg #[.int .u64 r.Lo, .int .u64 r.Hi] : Value)) hs).symm⟩)

def span_work_neg (a0 : Twork)  : Option TSpan := (if (a0.a.Hi == (0 : Int)) then some a0.a else (optF (span_must (decide (a0.a.Lo > (0 : Int)))) (none) fun _ => (letF (span_work_ends a0 (IntKind.u64.wrap (0 - a0.a.Hi)) (IntKind.u64.wrap (0 - a0.a.Lo))) fun x54 => some x54)))

theorem span_work_neg_ok (a0 : Twork)  (_h_a0 : (0 ≤ a0.a.Lo ∧ a0.a.Lo ≤ 18446744073709551615) ∧ (0 ≤ a0.a.Hi ∧ a0.a.Hi ≤ 18446744073709551615) ∧ (0 ≤ a0.b.Lo ∧ a0.b.Lo ≤ 18446744073709551615) ∧ (0 ≤ a0.b.Hi ∧ a0.b.Hi ≤ 18446744073709551615) ∧ (0 ≤ a0.most ∧ a0.most ≤ 18446744073709551615) ∧ (0 ≤ a0.size ∧ a0.size ≤ 18446744073709551615))  : ∀ y, (span_work_neg a0) = some y → (0 ≤ y.Lo ∧ y.Lo ≤ 18446744073709551615) ∧ (0 ≤ y.Hi ∧ y.Hi ≤ 18446744073709551615) := by
 rw [span_work_neg.eq_1]
 refine iteR (p := fun r : Option TSpan => ∀ y, r = some y → (0 ≤ y.Lo ∧ y.Lo ≤ 18446744073709551615) ∧ (0 ≤ y.Hi ∧ y.Hi ≤ 18446744073709551615)) (fun hi1001 => ?_) (fun hi1001 => ?_)
 ·
  replace hi1001 : a0.a.Hi = (0 : Int) := (bEqT hi1001)
  intro y hy; cases hy; exact (by exact (show (0 ≤ a0.a.Lo ∧ a0.a.Lo ≤ 18446744073709551615) ∧ (0 ≤ a0.a.Hi ∧ a0.a.Hi ≤ 18446744073709551615) from ⟨(by omega), (by omega)⟩))
 replace hi1001 : a0.a.Hi ≠ (0 : Int) := (bEqF hi1001)
 refine optR (p := fun r : Option TSpan => ∀ y, r = some y → (0 ≤ y.Lo ∧ y.Lo ≤ 18446744073709551615) ∧ (0 ≤ y.Hi ∧ y.Hi ≤ 18446744073709551615)) (fun _ => ?_) (fun x37 _ => ?_)
 ·
  intro y hy; cases hy
 refine letR (p := fun r : Option TSpan => ∀ y, r = some y → (0 ≤ y.Lo ∧ y.Lo ≤ 18446744073709551615) ∧ (0 ≤ y.Hi ∧ y.Hi ≤ 18446744073709551615)) fun x54 hx55 => ?_
 have hx56 : (0 ≤ x54.Lo ∧ x54.Lo ≤ 18446744073709551615) ∧ (0 ≤ x54.Hi ∧ x54.Hi ≤ 18446744073709551615) := by rw [← hx55]; exact span_work_ends_ok a0 (IntKind.u64.wrap (0 - a0.a.Hi)) (IntKind.u64.wrap (0 - a0.a.Lo)) ⟨(by omega), (by omega), (by omega), (by omega), (by omega), (by omega)⟩ (wrapU64 _) (wrapU64 _) 
 intro y hy; cases hy; exact (by exact (show (0 ≤ x54.Lo ∧ x54.Lo ≤ 18446744073709551615) ∧ (0 ≤ x54.Hi ∧ x54.Hi ≤ 18446744073709551615) from ⟨(by omega), (by omega)⟩))

theorem span_work_neg_any (a0 : Twork)   (w : World)  (_h_a0 : (0 ≤ a0.a.Lo ∧ a0.a.Lo ≤ 18446744073709551615) ∧ (0 ≤ a0.a.Hi ∧ a0.a.Hi ≤ 18446744073709551615) ∧ (0 ≤ a0.b.Lo ∧ a0.b.Lo ≤ 18446744073709551615) ∧ (0 ≤ a0.b.Hi ∧ a0.b.Hi ≤ 18446744073709551615) ∧ (0 ≤ a0.most ∧ a0.most ≤ 18446744073709551615) ∧ (0 ≤ a0.size ∧ a0.size ≤ 18446744073709551615))  : Calls Try.prog 88 #[.agg #[.int .u64 a0.a.Lo, .int .u64 a0.a.Hi, .int .u64 a0.b.Lo, .int .u64 a0.b.Hi, .bool a0.narrow, .int .u64 a0.most, .int .u64 a0.size]] w (RetP w (.iface 76 (.agg #[])) (((span_work_neg a0)).map fun r : TSpan => (.agg #[.int .u64 r.Lo, .int .u64 r.Hi] : Value))) := by
 have hs := span_work_neg.eq_1 a0
 refine calls_of_CW Try.func88 rfl (n := 24) Try.ntmps88 (by kernel_rfl) [0] (F := [(0, .agg #[.int .u64 a0.a.Lo, .int .u64 a0.a.Hi, .int .u64 a0.b.Lo, .int .u64 a0.b.Hi, .bool a0.narrow, .int .u64 a0.most, .int .u64 a0.size])]) (by kernel_rfl) ?_
 refine CW.seq fun K1 hK1 => ?_
 refine CW.region ?_
 refine WR.box (dst := some 1) (e := 79) (v := .agg #[.int .u64 a0.a.Lo, .int .u64 a0.a.Hi, .int .u64 a0.b.Lo, .int .u64 a0.b.Hi, .bool a0.narrow, .int .u64 a0.most, .int .u64 a0.size]) (by kernel_rfl) #[.int .u64 a0.a.Lo, .int .u64 a0.a.Hi, .int .u64 a0.b.Lo, .int .u64 a0.b.Hi, .bool a0.narrow, .int .u64 a0.most, .int .u64 a0.size] (by kernel_rfl) ?_
 intro g2 w3 hN4
 have hf6 : w.heap.size ≤ g2 := hN4.fresh
 have hfr8 := hN4.fresh
 have hc7 := hN4.chg
 have hz10 := hc7.size
 have hC9 := (Chg.refl [] w).pure hc7
 have hb5 := hN4.blk
 have hg11 := hb5.lt
 refine WR.alloc (dst := some 2) (e := 25) (by kernel_rfl) #[.int .u64 0, .int .u64 0] (by kernel_rfl) ?_
 intro g12 w13 hN14
 have hl17 : g2 < g12 := Nat.lt_of_lt_of_le hb5.lt hN14.fresh
 have hf16 : w.heap.size ≤ g12 := Nat.le_trans hC9.size hN14.fresh
 have hfr19 := hN14.fresh
 have hc18 := hN14.chg
 have hz21 := hc18.size
 have hC20 := hC9.pure hc18
 have hb22 := hb5.pure hc18
 have hb15 := hN14.blk
 have hg23 := hb15.lt
 refine WR.fin (by kernel_rfl) ?_
 refine go hK1 ?_
 refine CW.seq fun K24 hK24 => ?_
 refine CW.seq fun K25 hK25 => ?_
 refine CW.region ?_
 refine WR.batch 2 [(1, pt g2 0), (2, pt g12 0), (4, pt g2 1)] (by kernel_rfl) ?_
 refine WR.load (dst := some 5) (t := 23) (o := 1) hb22 (by kernel_rfl) (.int .u64 a0.a.Hi) (by kernel_rfl) ?_
 refine WR.batch 1 [(1, pt g2 0), (2, pt g12 0), (6, .bool (a0.a.Hi == (0 : Int)))] (by kernel_rfl) ?_
 refine WR.fin (by kernel_rfl) ?_
 refine go hK25 ?_
 refine CW.cond ((a0.a.Hi == (0 : Int))) (by kernel_rfl) (fun ht26 => ?_) (fun ht26 => ?_)
 ·
  have hs27 := ifT ht26 hs
  replace ht26 : a0.a.Hi = (0 : Int) := (bEqT ht26)
  refine CW.seq fun K28 hK28 => ?_
  refine CW.region ?_
  refine WR.batch 1 [(2, pt g12 0), (7, pt g2 0)] (by kernel_rfl) ?_
  refine WR.load (dst := some 8) (t := 25) (o := 0) hb22 (by kernel_rfl) (.agg #[.int .u64 a0.a.Lo, .int .u64 a0.a.Hi]) (by kernel_rfl) ?_
  refine WR.store (t := 25) (o := 0) (v := .agg #[.int .u64 a0.a.Lo, .int .u64 a0.a.Hi]) hb15 (by kernel_rfl) #[.int .u64 a0.a.Lo, .int .u64 a0.a.Hi] (by kernel_rfl) ?_
  intro w29 hb30 hc31
  have hz33 := hc31.size
  have hC32 := hC20.step1 hc31 (by omega)
  have hb34 := hb22.chg1 hc31 (by omega)
  refine WR.fin (by kernel_rfl) ?_
  refine go hK28 ?_
  refine CW.ret ?_
  exact retC [.agg #[.int .u64 a0.a.Lo, .int .u64 a0.a.Hi]] (.agg #[.int .u64 a0.a.Lo, .int .u64 a0.a.Hi]) rfl ⟨resCell hb30 rfl (by kernel_rfl), trivial⟩ (retP_ret (g := (fun r : TSpan => (.agg #[.int .u64 r.Lo, .int .u64 r.Hi] : Value))) hs27 rfl hC32)
 have hs35 := ifF ht26 hs
 replace ht26 : a0.a.Hi ≠ (0 : Int) := (bEqF ht26)
 refine CW.skip ?_
 refine go hK24 ?_
 refine CW.seq fun K36 hK36 => ?_
 refine CW.region ?_
 refine WR.batch 2 [(1, pt g2 0), (2, pt g12 0), (10, pt g2 0)] (by kernel_rfl) ?_
 refine WR.load (dst := some 11) (t := 23) (o := 0) hb22 (by kernel_rfl) (.int .u64 a0.a.Lo) (by kernel_rfl) ?_
 refine WR.batch 1 [(1, pt g2 0), (2, pt g12 0), (12, .bool (decide (a0.a.Lo > (0 : Int))))] (by kernel_rfl) ?_
 rcases hx38 : span_must (decide (a0.a.Lo > (0 : Int))) with _ | x37
 ·
  have hs41 := optN hx38 hs35
  refine WR.callX (dst := some 13) (by kernel_rfl) (retP_no (g := fun r : Unit => (.tuple #[] : Value)) hx38 (span_must_any (decide (a0.a.Lo > (0 : Int))) w13  )) ?_
  intro w39 hc40
  have hz43 := hc40.size
  have hC42 := hC20.pure hc40
  have hb44 := hb22.pure hc40
  have hb45 := hb15.pure hc40
  exact panicV (P := Try.prog) (fn := Try.f88) (retP_pan hs41 hC42)
 have hs46 := optS hx38 hs35
 refine WR.call (dst := some 13) (by kernel_rfl) (retP_yes (g := fun r : Unit => (.tuple #[] : Value)) hx38 (span_must_any (decide (a0.a.Lo > (0 : Int))) w13  )) ?_
 rintro _ w47 hc48 rfl
 have hz50 := hc48.size
 have hC49 := hC20.pure hc48
 have hb51 := hb22.pure hc48
 have hb52 := hb15.pure hc48
 refine WR.fin (by kernel_rfl) ?_
 refine go hK36 ?_
 refine CW.seq fun K53 hK53 => ?_
 refine CW.region ?_
 refine WR.load (dst := some 14) (t := 79) (o := 0) hb51 (by kernel_rfl) (.agg #[.int .u64 a0.a.Lo, .int .u64 a0.a.Hi, .int .u64 a0.b.Lo, .int .u64 a0.b.Hi, .bool a0.narrow, .int .u64 a0.most, .int .u64 a0.size]) (by kernel_rfl) ?_
 refine WR.batch 2 [(1, pt g2 0), (2, pt g12 0), (14, .agg #[.int .u64 a0.a.Lo, .int .u64 a0.a.Hi, .int .u64 a0.b.Lo, .int .u64 a0.b.Hi, .bool a0.narrow, .int .u64 a0.most, .int .u64 a0.size]), (16, pt g2 1)] (by kernel_rfl) ?_
 refine WR.load (dst := some 17) (t := 23) (o := 1) hb51 (by kernel_rfl) (.int .u64 a0.a.Hi) (by kernel_rfl) ?_
 refine WR.batch 3 [(2, pt g12 0), (14, .agg #[.int .u64 a0.a.Lo, .int .u64 a0.a.Hi, .int .u64 a0.b.Lo, .int .u64 a0.b.Hi, .bool a0.narrow, .int .u64 a0.most, .int .u64 a0.size]), (18, .int .u64 (IntKind.u64.wrap (0 - a0.a.Hi))), (20, pt g2 0)] (by kernel_rfl) ?_
 refine WR.load (dst := some 21) (t := 23) (o := 0) hb51 (by kernel_rfl) (.int .u64 a0.a.Lo) (by kernel_rfl) ?_
 refine WR.batch 1 [(2, pt g12 0), (14, .agg #[.int .u64 a0.a.Lo, .int .u64 a0.a.Hi, .int .u64 a0.b.Lo, .int .u64 a0.b.Hi, .bool a0.narrow, .int .u64 a0.most, .int .u64 a0.size]), (18, .int .u64 (IntKind.u64.wrap (0 - a0.a.Hi))), (22, .int .u64 (IntKind.u64.wrap (0 - a0.a.Lo)))] (by kernel_rfl) ?_
 obtain ⟨x54, hx55⟩ : ∃ x, span_work_ends a0 (IntKind.u64.wrap (0 - a0.a.Hi)) (IntKind.u64.wrap (0 - a0.a.Lo)) = x := ⟨_, rfl⟩
 have hs57 := letS hx55 hs46
 have hx58 : (0 ≤ x54.Lo ∧ x54.Lo ≤ 18446744073709551615) ∧ (0 ≤ x54.Hi ∧ x54.Hi ≤ 18446744073709551615) := by rw [← hx55]; exact span_work_ends_ok a0 (IntKind.u64.wrap (0 - a0.a.Hi)) (IntKind.u64.wrap (0 - a0.a.Lo)) ⟨(by omega), (by omega), (by omega), (by omega), (by omega), (by omega)⟩ (wrapU64 _) (wrapU64 _) 
 refine WR.call (dst := some 23) (by kernel_rfl) (retE (g := fun r : TSpan => (.agg #[.int .u64 r.Lo, .int .u64 r.Hi] : Value)) hx55 (span_work_ends_any a0 (IntKind.u64.wrap (0 - a0.a.Hi)) (IntKind.u64.wrap (0 - a0.a.Lo)) w47  ⟨(by omega), (by omega), (by omega), (by omega), (by omega), (by omega)⟩ (wrapU64 _) (wrapU64 _) )) ?_
 rintro _ w59 hc60 rfl
 have hz62 := hc60.size
 have hC61 := hC49.pure hc60
 have hb63 := hb51.pure hc60
 have hb64 := hb52.pure hc60
 refine WR.store (t := 25) (o := 0) (v := .agg #[.int .u64 x54.Lo, .int .u64 x54.Hi]) hb64 (by kernel_rfl) #[.int .u64 x54.Lo, .int .u64 x54.Hi] (by kernel_rfl) ?_
 intro w65 hb66 hc67
 have hz69 := hc67.size
 have hC68 := hC61.step1 hc67 (by omega)
 have hb70 := hb63.chg1 hc67 (by omega)
 refine WR.fin (by kernel_rfl) ?_
 refine go hK53 ?_
 refine CW.ret ?_
 exact retC [.agg #[.int .u64 x54.Lo, .int .u64 x54.Hi]] (.agg #[.int .u64 x54.Lo, .int .u64 x54.Hi]) rfl ⟨resCell hb66 rfl (by kernel_rfl), trivial⟩ (retP_ret (g := (fun r : TSpan => (.agg #[.int .u64 r.Lo, .int .u64 r.Hi] : Value))) hs57 rfl hC68)

def span_work_shl (a0 : Twork)  : Option TSpan := (letF (span_one a0.b) fun x27 => (optF (span_must (x27 && (decide (a0.a.Hi ≤ (sShr .u64 a0.most ((a0.b.Lo).tmod a0.size)))))) (none) fun _ => some (⟨(sShl .u64 a0.a.Lo ((a0.b.Lo).tmod a0.size)), (sShl .u64 a0.a.Hi ((a0.b.Lo).tmod a0.size))⟩ : TSpan)))

theorem span_work_shl_ok (a0 : Twork)  (_h_a0 : (0 ≤ a0.a.Lo ∧ a0.a.Lo ≤ 18446744073709551615) ∧ (0 ≤ a0.a.Hi ∧ a0.a.Hi ≤ 18446744073709551615) ∧ (0 ≤ a0.b.Lo ∧ a0.b.Lo ≤ 18446744073709551615) ∧ (0 ≤ a0.b.Hi ∧ a0.b.Hi ≤ 18446744073709551615) ∧ (0 ≤ a0.most ∧ a0.most ≤ 18446744073709551615) ∧ (0 ≤ a0.size ∧ a0.size ≤ 18446744073709551615)) (_hsz : a0.size = 32 ∨ a0.size = 64) : ∀ y, (span_work_shl a0) = some y → (0 ≤ y.Lo ∧ y.Lo ≤ 18446744073709551615) ∧ (0 ≤ y.Hi ∧ y.Hi ≤ 18446744073709551615) := by
 rw [span_work_shl.eq_1]
 refine letR (p := fun r : Option TSpan => ∀ y, r = some y → (0 ≤ y.Lo ∧ y.Lo ≤ 18446744073709551615) ∧ (0 ≤ y.Hi ∧ y.Hi ≤ 18446744073709551615)) fun x27 _ => ?_
 refine optR (p := fun r : Option TSpan => ∀ y, r = some y → (0 ≤ y.Lo ∧ y.Lo ≤ 18446744073709551615) ∧ (0 ≤ y.Hi ∧ y.Hi ≤ 18446744073709551615)) (fun _ => ?_) (fun x44 _ => ?_)
 ·
  intro y hy; cases hy
 intro y hy; cases hy; exact (by exact (show (0 ≤ (sShl .u64 a0.a.Lo ((a0.b.Lo).tmod a0.size)) ∧ (sShl .u64 a0.a.Lo ((a0.b.Lo).tmod a0.size)) ≤ 18446744073709551615) ∧ (0 ≤ (sShl .u64 a0.a.Hi ((a0.b.Lo).tmod a0.size)) ∧ (sShl .u64 a0.a.Hi ((a0.b.Lo).tmod a0.size)) ≤ 18446744073709551615) from ⟨(wrapU64 _), (wrapU64 _)⟩))

theorem span_work_shl_any (a0 : Twork)   (w : World)  (_h_a0 : (0 ≤ a0.a.Lo ∧ a0.a.Lo ≤ 18446744073709551615) ∧ (0 ≤ a0.a.Hi ∧ a0.a.Hi ≤ 18446744073709551615) ∧ (0 ≤ a0.b.Lo ∧ a0.b.Lo ≤ 18446744073709551615) ∧ (0 ≤ a0.b.Hi ∧ a0.b.Hi ≤ 18446744073709551615) ∧ (0 ≤ a0.most ∧ a0.most ≤ 18446744073709551615) ∧ (0 ≤ a0.size ∧ a0.size ≤ 18446744073709551615)) (_hsz : a0.size = 32 ∨ a0.size = 64) : Calls Try.prog 84 #[.agg #[.int .u64 a0.a.Lo, .int .u64 a0.a.Hi, .int .u64 a0.b.Lo, .int .u64 a0.b.Hi, .bool a0.narrow, .int .u64 a0.most, .int .u64 a0.size]] w (RetP w (.iface 76 (.agg #[])) (((span_work_shl a0)).map fun r : TSpan => (.agg #[.int .u64 r.Lo, .int .u64 r.Hi] : Value))) := by
 have hs := span_work_shl.eq_1 a0
 refine calls_of_CW Try.func84 rfl (n := 35) Try.ntmps84 (by kernel_rfl) [0] (F := [(0, .agg #[.int .u64 a0.a.Lo, .int .u64 a0.a.Hi, .int .u64 a0.b.Lo, .int .u64 a0.b.Hi, .bool a0.narrow, .int .u64 a0.most, .int .u64 a0.size])]) (by kernel_rfl) ?_
 refine CW.seq fun K1 hK1 => ?_
 refine CW.region ?_
 refine WR.box (dst := some 1) (e := 79) (v := .agg #[.int .u64 a0.a.Lo, .int .u64 a0.a.Hi, .int .u64 a0.b.Lo, .int .u64 a0.b.Hi, .bool a0.narrow, .int .u64 a0.most, .int .u64 a0.size]) (by kernel_rfl) #[.int .u64 a0.a.Lo, .int .u64 a0.a.Hi, .int .u64 a0.b.Lo, .int .u64 a0.b.Hi, .bool a0.narrow, .int .u64 a0.most, .int .u64 a0.size] (by kernel_rfl) ?_
 intro g2 w3 hN4
 have hf6 : w.heap.size ≤ g2 := hN4.fresh
 have hfr8 := hN4.fresh
 have hc7 := hN4.chg
 have hz10 := hc7.size
 have hC9 := (Chg.refl [] w).pure hc7
 have hb5 := hN4.blk
 have hg11 := hb5.lt
 refine WR.alloc (dst := some 2) (e := 25) (by kernel_rfl) #[.int .u64 0, .int .u64 0] (by kernel_rfl) ?_
 intro g12 w13 hN14
 have hl17 : g2 < g12 := Nat.lt_of_lt_of_le hb5.lt hN14.fresh
 have hf16 : w.heap.size ≤ g12 := Nat.le_trans hC9.size hN14.fresh
 have hfr19 := hN14.fresh
 have hc18 := hN14.chg
 have hz21 := hc18.size
 have hC20 := hC9.pure hc18
 have hb22 := hb5.pure hc18
 have hb15 := hN14.blk
 have hg23 := hb15.lt
 refine WR.fin (by kernel_rfl) ?_
 refine go hK1 ?_
 refine CW.seq fun K24 hK24 => ?_
 refine CW.region ?_
 refine WR.batch 2 [(1, pt g2 0), (2, pt g12 0), (5, pt g2 2)] (by kernel_rfl) ?_
 refine WR.load (dst := some 6) (t := 23) (o := 2) hb22 (by kernel_rfl) (.int .u64 a0.b.Lo) (by kernel_rfl) ?_
 refine WR.batch 1 [(1, pt g2 0), (2, pt g12 0), (6, .int .u64 a0.b.Lo), (7, pt g2 6)] (by kernel_rfl) ?_
 refine WR.load (dst := some 8) (t := 23) (o := 6) hb22 (by kernel_rfl) (.int .u64 a0.size) (by kernel_rfl) ?_
 refine WR.valR (dst := some 9) (v := .int .u64 ((a0.b.Lo).tmod a0.size)) (w' := w13) (run_rem (kk := .u64) (x := a0.b.Lo) (y := a0.size) (by kernel_rfl) (by omega) w13) ?_
 have hm25 := tmod_rng (x := a0.b.Lo) (y := a0.size) (m := 18446744073709551615) (by omega) (by omega)
 refine WR.batch 1 [(1, pt g2 0), (2, pt g12 0), (3, .int .u64 ((a0.b.Lo).tmod a0.size))] (by kernel_rfl) ?_
 refine WR.fin (by kernel_rfl) ?_
 refine go hK24 ?_
 refine CW.seq fun K26 hK26 => ?_
 refine CW.region ?_
 refine WR.batch 1 [(1, pt g2 0), (2, pt g12 0), (3, .int .u64 ((a0.b.Lo).tmod a0.size)), (10, pt g2 2)] (by kernel_rfl) ?_
 refine WR.load (dst := some 11) (t := 25) (o := 2) hb22 (by kernel_rfl) (.agg #[.int .u64 a0.b.Lo, .int .u64 a0.b.Hi]) (by kernel_rfl) ?_
 obtain ⟨x27, hx28⟩ : ∃ x, span_one a0.b = x := ⟨_, rfl⟩
 have hs29 := letS hx28 hs
 refine WR.call (dst := some 12) (by kernel_rfl) (retE (g := fun r : Bool => (.bool r : Value)) hx28 (span_one_any a0.b w13  ⟨(by omega), (by omega)⟩ )) ?_
 rintro _ w30 hc31 rfl
 have hz33 := hc31.size
 have hC32 := hC20.pure hc31
 have hb34 := hb22.pure hc31
 have hb35 := hb15.pure hc31
 refine WR.batch 1 [(1, pt g2 0), (2, pt g12 0), (3, .int .u64 ((a0.b.Lo).tmod a0.size)), (13, .bool x27)] (by kernel_rfl) ?_
 refine WR.mergeW 13 [(1, pt g2 0), (2, pt g12 0), (3, .int .u64 ((a0.b.Lo).tmod a0.size)), (22, .bool (x27 && (decide (a0.a.Hi ≤ (sShr .u64 a0.most ((a0.b.Lo).tmod a0.size))))))] (fun w' => Chg [] w30 w') (fun Q' => ?_) ?_
 ·
  cases hg36 : x27
  ·
   intro hM37
   refine WR.batch 9 [(1, pt g2 0), (2, pt g12 0), (3, .int .u64 ((a0.b.Lo).tmod a0.size)), (22, .bool false)] (by kernel_rfl) ?_
   exact WR.keep [1, 2, 3, 22] (by kernel_rfl) (hM37 _ (Chg.refl [] w30))
  ·
   intro hM37
   refine WR.batch 2 [(1, pt g2 0), (2, pt g12 0), (3, .int .u64 ((a0.b.Lo).tmod a0.size)), (13, .bool true), (15, pt g2 1)] (by kernel_rfl) ?_
   refine WR.load (dst := some 16) (t := 23) (o := 1) hb34 (by kernel_rfl) (.int .u64 a0.a.Hi) (by kernel_rfl) ?_
   refine WR.batch 1 [(1, pt g2 0), (2, pt g12 0), (3, .int .u64 ((a0.b.Lo).tmod a0.size)), (13, .bool true), (16, .int .u64 a0.a.Hi), (17, pt g2 5)] (by kernel_rfl) ?_
   refine WR.load (dst := some 18) (t := 23) (o := 5) hb34 (by kernel_rfl) (.int .u64 a0.most) (by kernel_rfl) ?_
   refine WR.batch 1 [(1, pt g2 0), (2, pt g12 0), (3, .int .u64 ((a0.b.Lo).tmod a0.size)), (13, .bool true), (16, .int .u64 a0.a.Hi), (18, .int .u64 a0.most), (19, .int .u64 ((a0.b.Lo).tmod a0.size))] (by kernel_rfl) ?_
   refine WR.valR (dst := some 20) (v := .int .u64 (sShr .u64 a0.most ((a0.b.Lo).tmod a0.size))) (w' := w30) (run_shr (kk := .u64) (k' := .u64) (x := a0.most) (y := ((a0.b.Lo).tmod a0.size)) (by kernel_rfl) (show 0 ≤ ((a0.b.Lo).tmod a0.size) ∧ ((a0.b.Lo).tmod a0.size) ≤ 18446744073709551615 from (tmod_rng (by omega) (by omega))).1 w30) ?_
   refine WR.batch 2 [(1, pt g2 0), (2, pt g12 0), (3, .int .u64 ((a0.b.Lo).tmod a0.size)), (22, .bool (decide (a0.a.Hi ≤ (sShr .u64 a0.most ((a0.b.Lo).tmod a0.size)))))] (by kernel_rfl) ?_
   exact WR.keep [1, 2, 3, 22] (by kernel_rfl) (hM37 _ (Chg.refl [] w30))
 intro w38 hc39
 have hz41 := hc39.size
 have hC40 := hC32.pure hc39
 have hb42 := hb34.pure hc39
 have hb43 := hb35.pure hc39
 rcases hx45 : span_must (x27 && (decide (a0.a.Hi ≤ (sShr .u64 a0.most ((a0.b.Lo).tmod a0.size))))) with _ | x44
 ·
  have hs48 := optN hx45 hs29
  refine WR.callX (dst := some 23) (by kernel_rfl) (retP_no (g := fun r : Unit => (.tuple #[] : Value)) hx45 (span_must_any (x27 && (decide (a0.a.Hi ≤ (sShr .u64 a0.most ((a0.b.Lo).tmod a0.size))))) w38  )) ?_
  intro w46 hc47
  have hz50 := hc47.size
  have hC49 := hC40.pure hc47
  have hb51 := hb42.pure hc47
  have hb52 := hb43.pure hc47
  exact panicV (P := Try.prog) (fn := Try.f84) (retP_pan hs48 hC49)
 have hs53 := optS hx45 hs29
 refine WR.call (dst := some 23) (by kernel_rfl) (retP_yes (g := fun r : Unit => (.tuple #[] : Value)) hx45 (span_must_any (x27 && (decide (a0.a.Hi ≤ (sShr .u64 a0.most ((a0.b.Lo).tmod a0.size))))) w38  )) ?_
 rintro _ w54 hc55 rfl
 have hz57 := hc55.size
 have hC56 := hC40.pure hc55
 have hb58 := hb42.pure hc55
 have hb59 := hb43.pure hc55
 refine WR.fin (by kernel_rfl) ?_
 refine go hK26 ?_
 refine CW.seq fun K60 hK60 => ?_
 refine CW.region ?_
 refine WR.batch 2 [(1, pt g2 0), (2, pt g12 0), (3, .int .u64 ((a0.b.Lo).tmod a0.size)), (25, pt g2 0)] (by kernel_rfl) ?_
 refine WR.load (dst := some 26) (t := 23) (o := 0) hb58 (by kernel_rfl) (.int .u64 a0.a.Lo) (by kernel_rfl) ?_
 refine WR.batch 1 [(1, pt g2 0), (2, pt g12 0), (3, .int .u64 ((a0.b.Lo).tmod a0.size)), (26, .int .u64 a0.a.Lo), (27, .int .u64 ((a0.b.Lo).tmod a0.size))] (by kernel_rfl) ?_
 refine WR.valR (dst := some 28) (v := .int .u64 (sShl .u64 a0.a.Lo ((a0.b.Lo).tmod a0.size))) (w' := w54) (run_shl (kk := .u64) (k' := .u64) (x := a0.a.Lo) (y := ((a0.b.Lo).tmod a0.size)) (by kernel_rfl) (show 0 ≤ ((a0.b.Lo).tmod a0.size) ∧ ((a0.b.Lo).tmod a0.size) ≤ 18446744073709551615 from (tmod_rng (by omega) (by omega))).1 w54) ?_
 refine WR.batch 2 [(2, pt g12 0), (3, .int .u64 ((a0.b.Lo).tmod a0.size)), (28, .int .u64 (sShl .u64 a0.a.Lo ((a0.b.Lo).tmod a0.size))), (30, pt g2 1)] (by kernel_rfl) ?_
 refine WR.load (dst := some 31) (t := 23) (o := 1) hb58 (by kernel_rfl) (.int .u64 a0.a.Hi) (by kernel_rfl) ?_
 refine WR.batch 1 [(2, pt g12 0), (28, .int .u64 (sShl .u64 a0.a.Lo ((a0.b.Lo).tmod a0.size))), (31, .int .u64 a0.a.Hi), (32, .int .u64 ((a0.b.Lo).tmod a0.size))] (by kernel_rfl) ?_
 refine WR.valR (dst := some 33) (v := .int .u64 (sShl .u64 a0.a.Hi ((a0.b.Lo).tmod a0.size))) (w' := w54) (run_shl (kk := .u64) (k' := .u64) (x := a0.a.Hi) (y := ((a0.b.Lo).tmod a0.size)) (by kernel_rfl) (show 0 ≤ ((a0.b.Lo).tmod a0.size) ∧ ((a0.b.Lo).tmod a0.size) ≤ 18446744073709551615 from (tmod_rng (by omega) (by omega))).1 w54) ?_
 refine WR.batch 1 [(2, pt g12 0), (34, .agg #[.int .u64 (sShl .u64 a0.a.Lo ((a0.b.Lo).tmod a0.size)), .int .u64 (sShl .u64 a0.a.Hi ((a0.b.Lo).tmod a0.size))])] (by kernel_rfl) ?_
 refine WR.store (t := 25) (o := 0) (v := .agg #[.int .u64 (sShl .u64 a0.a.Lo ((a0.b.Lo).tmod a0.size)), .int .u64 (sShl .u64 a0.a.Hi ((a0.b.Lo).tmod a0.size))]) hb59 (by kernel_rfl) #[.int .u64 (sShl .u64 a0.a.Lo ((a0.b.Lo).tmod a0.size)), .int .u64 (sShl .u64 a0.a.Hi ((a0.b.Lo).tmod a0.size))] (by kernel_rfl) ?_
 intro w61 hb62 hc63
 have hz65 := hc63.size
 have hC64 := hC56.step1 hc63 (by omega)
 have hb66 := hb58.chg1 hc63 (by omega)
 refine WR.fin (by kernel_rfl) ?_
 refine go hK60 ?_
 refine CW.ret ?_
 exact retC [.agg #[.int .u64 (sShl .u64 a0.a.Lo ((a0.b.Lo).tmod a0.size)), .int .u64 (sShl .u64 a0.a.Hi ((a0.b.Lo).tmod a0.size))]] (.agg #[.int .u64 (sShl .u64 a0.a.Lo ((a0.b.Lo).tmod a0.size)), .int .u64 (sShl .u64 a0.a.Hi ((a0.b.Lo).tmod a0.size))]) rfl ⟨resCell hb62 rfl (by kernel_rfl), trivial⟩ (retP_ret (g := (fun r : TSpan => (.agg #[.int .u64 r.Lo, .int .u64 r.Hi] : Value))) hs53 rfl hC64)

def span_work_shr (a0 : Twork)  : TSpan := (letF (span_one a0.b) fun x33 => (if x33 then (⟨(sShr .u64 a0.a.Lo ((a0.b.Hi).tmod a0.size)), (sShr .u64 a0.a.Hi ((a0.b.Lo).tmod a0.size))⟩ : TSpan) else (if decide (a0.b.Hi ≥ a0.size) then (⟨(0 : Int), a0.a.Hi⟩ : TSpan) else (⟨(sShr .u64 a0.a.Lo a0.b.Hi), (sShr .u64 a0.a.Hi a0.b.Lo)⟩ : TSpan))))

theorem span_work_shr_ok (a0 : Twork)  (_h_a0 : (0 ≤ a0.a.Lo ∧ a0.a.Lo ≤ 18446744073709551615) ∧ (0 ≤ a0.a.Hi ∧ a0.a.Hi ≤ 18446744073709551615) ∧ (0 ≤ a0.b.Lo ∧ a0.b.Lo ≤ 18446744073709551615) ∧ (0 ≤ a0.b.Hi ∧ a0.b.Hi ≤ 18446744073709551615) ∧ (0 ≤ a0.most ∧ a0.most ≤ 18446744073709551615) ∧ (0 ≤ a0.size ∧ a0.size ≤ 18446744073709551615)) (_hsz : a0.size = 32 ∨ a0.size = 64) : (0 ≤ (span_work_shr a0).Lo ∧ (span_work_shr a0).Lo ≤ 18446744073709551615) ∧ (0 ≤ (span_work_shr a0).Hi ∧ (span_work_shr a0).Hi ≤ 18446744073709551615) := by
 rw [span_work_shr.eq_1]
 refine letR (p := fun r : TSpan => (0 ≤ r.Lo ∧ r.Lo ≤ 18446744073709551615) ∧ (0 ≤ r.Hi ∧ r.Hi ≤ 18446744073709551615)) fun x33 _ => ?_
 refine iteR (p := fun r : TSpan => (0 ≤ r.Lo ∧ r.Lo ≤ 18446744073709551615) ∧ (0 ≤ r.Hi ∧ r.Hi ≤ 18446744073709551615)) (fun hi1001 => ?_) (fun hi1001 => ?_)
 ·
  exact (by exact (show (0 ≤ (sShr .u64 a0.a.Lo ((a0.b.Hi).tmod a0.size)) ∧ (sShr .u64 a0.a.Lo ((a0.b.Hi).tmod a0.size)) ≤ 18446744073709551615) ∧ (0 ≤ (sShr .u64 a0.a.Hi ((a0.b.Lo).tmod a0.size)) ∧ (sShr .u64 a0.a.Hi ((a0.b.Lo).tmod a0.size)) ≤ 18446744073709551615) from ⟨(sShr_rng (by omega)), (sShr_rng (by omega))⟩))
 refine iteR (p := fun r : TSpan => (0 ≤ r.Lo ∧ r.Lo ≤ 18446744073709551615) ∧ (0 ≤ r.Hi ∧ r.Hi ≤ 18446744073709551615)) (fun hi1002 => ?_) (fun hi1002 => ?_)
 ·
  replace hi1002 : a0.b.Hi ≥ a0.size := (of_decide_eq_true hi1002)
  exact (by exact (show (0 ≤ (0 : Int) ∧ (0 : Int) ≤ 18446744073709551615) ∧ (0 ≤ a0.a.Hi ∧ a0.a.Hi ≤ 18446744073709551615) from ⟨(by omega), (by omega)⟩))
 replace hi1002 : ¬ (a0.b.Hi ≥ a0.size) := (of_decide_eq_false hi1002)
 exact (by exact (show (0 ≤ (sShr .u64 a0.a.Lo a0.b.Hi) ∧ (sShr .u64 a0.a.Lo a0.b.Hi) ≤ 18446744073709551615) ∧ (0 ≤ (sShr .u64 a0.a.Hi a0.b.Lo) ∧ (sShr .u64 a0.a.Hi a0.b.Lo) ≤ 18446744073709551615) from ⟨(sShr_rng (by omega)), (sShr_rng (by omega))⟩))

set_option maxHeartbeats 4000000 in
theorem span_work_shr_any (a0 : Twork)   (w : World)  (_h_a0 : (0 ≤ a0.a.Lo ∧ a0.a.Lo ≤ 18446744073709551615) ∧ (0 ≤ a0.a.Hi ∧ a0.a.Hi ≤ 18446744073709551615) ∧ (0 ≤ a0.b.Lo ∧ a0.b.Lo ≤ 18446744073709551615) ∧ (0 ≤ a0.b.Hi ∧ a0.b.Hi ≤ 18446744073709551615) ∧ (0 ≤ a0.most ∧ a0.most ≤ 18446744073709551615) ∧ (0 ≤ a0.size ∧ a0.size ≤ 18446744073709551615)) (_hsz : a0.size = 32 ∨ a0.size = 64) : Calls Try.prog 85 #[.agg #[.int .u64 a0.a.Lo, .int .u64 a0.a.Hi, .int .u64 a0.b.Lo, .int .u64 a0.b.Hi, .bool a0.narrow, .int .u64 a0.most, .int .u64 a0.size]] w (RetV w (.agg #[.int .u64 (span_work_shr a0).Lo, .int .u64 (span_work_shr a0).Hi])) := by
 have hs := span_work_shr.eq_1 a0
 refine calls_of_CW Try.func85 rfl (n := 43) Try.ntmps85 (by kernel_rfl) [0] (F := [(0, .agg #[.int .u64 a0.a.Lo, .int .u64 a0.a.Hi, .int .u64 a0.b.Lo, .int .u64 a0.b.Hi, .bool a0.narrow, .int .u64 a0.most, .int .u64 a0.size])]) (by kernel_rfl) ?_
 refine CW.seq fun K1 hK1 => ?_
 refine CW.region ?_
 refine WR.box (dst := some 1) (e := 79) (v := .agg #[.int .u64 a0.a.Lo, .int .u64 a0.a.Hi, .int .u64 a0.b.Lo, .int .u64 a0.b.Hi, .bool a0.narrow, .int .u64 a0.most, .int .u64 a0.size]) (by kernel_rfl) #[.int .u64 a0.a.Lo, .int .u64 a0.a.Hi, .int .u64 a0.b.Lo, .int .u64 a0.b.Hi, .bool a0.narrow, .int .u64 a0.most, .int .u64 a0.size] (by kernel_rfl) ?_
 intro g2 w3 hN4
 have hf6 : w.heap.size ≤ g2 := hN4.fresh
 have hfr8 := hN4.fresh
 have hc7 := hN4.chg
 have hz10 := hc7.size
 have hC9 := (Chg.refl [] w).pure hc7
 have hb5 := hN4.blk
 have hg11 := hb5.lt
 refine WR.alloc (dst := some 2) (e := 25) (by kernel_rfl) #[.int .u64 0, .int .u64 0] (by kernel_rfl) ?_
 intro g12 w13 hN14
 have hl17 : g2 < g12 := Nat.lt_of_lt_of_le hb5.lt hN14.fresh
 have hf16 : w.heap.size ≤ g12 := Nat.le_trans hC9.size hN14.fresh
 have hfr19 := hN14.fresh
 have hc18 := hN14.chg
 have hz21 := hc18.size
 have hC20 := hC9.pure hc18
 have hb22 := hb5.pure hc18
 have hb15 := hN14.blk
 have hg23 := hb15.lt
 refine WR.fin (by kernel_rfl) ?_
 refine go hK1 ?_
 refine CW.seq fun K24 hK24 => ?_
 refine CW.regionQ (by kernel_rfl) (by kernel_rfl) ?_
 refine WQ.val (dst := some 5) (pt g2 2) (fun _ => by kernel_rfl) ?_
 refine WQ.val (dst := some 6) (pt g2 3) (fun _ => by kernel_rfl) ?_
 refine WQ.load (dst := some 7) (t := 23) (o := 3) (fun _ hq => hb22.pure hq) (by kernel_rfl) (.int .u64 a0.b.Hi) (by kernel_rfl) ?_
 refine WQ.val (dst := some 8) (pt g2 2) (fun _ => by kernel_rfl) ?_
 refine WQ.val (dst := some 9) (pt g2 2) (fun _ => by kernel_rfl) ?_
 refine WQ.load (dst := some 10) (t := 23) (o := 2) (fun _ hq => hb22.pure hq) (by kernel_rfl) (.int .u64 a0.b.Lo) (by kernel_rfl) ?_
 refine WQ.val (dst := some 3) (.int .u64 a0.b.Hi) (fun _ => by kernel_rfl) ?_
 refine WQ.val (dst := some 4) (.int .u64 a0.b.Lo) (fun _ => by kernel_rfl) ?_
 refine WQ.fin (by kernel_rfl) ?_
 intro w25 hc26
 have hz28 := hc26.size
 have hC27 := hC20.pure hc26
 have hb29 := hb22.pure hc26
 have hb30 := hb15.pure hc26
 refine go hK24 ?_
 refine CW.seq fun K31 hK31 => ?_
 refine CW.block ?_
 refine CW.seq fun K32 hK32 => ?_
 refine CW.region ?_
 refine WR.batch 1 [(1, pt g2 0), (2, pt g12 0), (3, .int .u64 a0.b.Hi), (4, .int .u64 a0.b.Lo), (12, pt g2 2)] (by kernel_rfl) ?_
 refine WR.load (dst := some 13) (t := 25) (o := 2) hb29 (by kernel_rfl) (.agg #[.int .u64 a0.b.Lo, .int .u64 a0.b.Hi]) (by kernel_rfl) ?_
 obtain ⟨x33, hx34⟩ : ∃ x, span_one a0.b = x := ⟨_, rfl⟩
 have hs35 := letS hx34 hs
 refine WR.call (dst := some 14) (by kernel_rfl) (retE (g := fun r : Bool => (.bool r : Value)) hx34 (span_one_any a0.b w25  ⟨(by omega), (by omega)⟩ )) ?_
 rintro _ w36 hc37 rfl
 have hz39 := hc37.size
 have hC38 := hC27.pure hc37
 have hb40 := hb29.pure hc37
 have hb41 := hb30.pure hc37
 refine WR.batch 1 [(1, pt g2 0), (2, pt g12 0), (3, .int .u64 a0.b.Hi), (4, .int .u64 a0.b.Lo), (11, .bool x33)] (by kernel_rfl) ?_
 refine WR.fin (by kernel_rfl) ?_
 refine go hK32 ?_
 refine CW.cond (x33) (by kernel_rfl) (fun ht42 => ?_) (fun ht42 => ?_)
 ·
  have hs43 := ifT ht42 hs35
  refine CW.regionQ (by kernel_rfl) (by kernel_rfl) ?_
  refine WQ.val (dst := some 15) (.int .u64 a0.b.Hi) (fun _ => by kernel_rfl) ?_
  refine WQ.val (dst := some 16) (pt g2 6) (fun _ => by kernel_rfl) ?_
  refine WQ.load (dst := some 17) (t := 23) (o := 6) (fun _ hq => hb40.pure hq) (by kernel_rfl) (.int .u64 a0.size) (by kernel_rfl) ?_
  refine WQ.val (dst := some 18) (.int .u64 ((a0.b.Hi).tmod a0.size)) (run_rem (kk := .u64) (x := a0.b.Hi) (y := a0.size) (by kernel_rfl) (by omega)) ?_
  have hm44 := tmod_rng (x := a0.b.Hi) (y := a0.size) (m := 18446744073709551615) (by omega) (by omega)
  refine WQ.val (dst := some 19) (.int .u64 a0.b.Lo) (fun _ => by kernel_rfl) ?_
  refine WQ.val (dst := some 20) (pt g2 6) (fun _ => by kernel_rfl) ?_
  refine WQ.load (dst := some 21) (t := 23) (o := 6) (fun _ hq => hb40.pure hq) (by kernel_rfl) (.int .u64 a0.size) (by kernel_rfl) ?_
  refine WQ.val (dst := some 22) (.int .u64 ((a0.b.Lo).tmod a0.size)) (run_rem (kk := .u64) (x := a0.b.Lo) (y := a0.size) (by kernel_rfl) (by omega)) ?_
  have hm45 := tmod_rng (x := a0.b.Lo) (y := a0.size) (m := 18446744073709551615) (by omega) (by omega)
  refine WQ.val (dst := some 3) (.int .u64 ((a0.b.Hi).tmod a0.size)) (fun _ => by kernel_rfl) ?_
  refine WQ.val (dst := some 4) (.int .u64 ((a0.b.Lo).tmod a0.size)) (fun _ => by kernel_rfl) ?_
  refine WQ.fin (by kernel_rfl) ?_
  intro w46 hc47
  have hz49 := hc47.size
  have hC48 := hC38.pure hc47
  have hb50 := hb40.pure hc47
  have hb51 := hb41.pure hc47
  refine go hK31 ?_
  refine CW.seq fun K52 hK52 => ?_
  refine CW.region ?_
  refine WR.batch 2 [(1, pt g2 0), (2, pt g12 0), (3, .int .u64 ((a0.b.Hi).tmod a0.size)), (4, .int .u64 ((a0.b.Lo).tmod a0.size)), (33, pt g2 0)] (by kernel_rfl) ?_
  refine WR.load (dst := some 34) (t := 23) (o := 0) hb50 (by kernel_rfl) (.int .u64 a0.a.Lo) (by kernel_rfl) ?_
  refine WR.batch 1 [(1, pt g2 0), (2, pt g12 0), (4, .int .u64 ((a0.b.Lo).tmod a0.size)), (34, .int .u64 a0.a.Lo), (35, .int .u64 ((a0.b.Hi).tmod a0.size))] (by kernel_rfl) ?_
  refine WR.valR (dst := some 36) (v := .int .u64 (sShr .u64 a0.a.Lo ((a0.b.Hi).tmod a0.size))) (w' := w46) (run_shr (kk := .u64) (k' := .u64) (x := a0.a.Lo) (y := ((a0.b.Hi).tmod a0.size)) (by kernel_rfl) (show 0 ≤ ((a0.b.Hi).tmod a0.size) ∧ ((a0.b.Hi).tmod a0.size) ≤ 18446744073709551615 from (tmod_rng (by omega) (by omega))).1 w46) ?_
  refine WR.batch 2 [(2, pt g12 0), (4, .int .u64 ((a0.b.Lo).tmod a0.size)), (36, .int .u64 (sShr .u64 a0.a.Lo ((a0.b.Hi).tmod a0.size))), (38, pt g2 1)] (by kernel_rfl) ?_
  refine WR.load (dst := some 39) (t := 23) (o := 1) hb50 (by kernel_rfl) (.int .u64 a0.a.Hi) (by kernel_rfl) ?_
  refine WR.batch 1 [(2, pt g12 0), (36, .int .u64 (sShr .u64 a0.a.Lo ((a0.b.Hi).tmod a0.size))), (39, .int .u64 a0.a.Hi), (40, .int .u64 ((a0.b.Lo).tmod a0.size))] (by kernel_rfl) ?_
  refine WR.valR (dst := some 41) (v := .int .u64 (sShr .u64 a0.a.Hi ((a0.b.Lo).tmod a0.size))) (w' := w46) (run_shr (kk := .u64) (k' := .u64) (x := a0.a.Hi) (y := ((a0.b.Lo).tmod a0.size)) (by kernel_rfl) (show 0 ≤ ((a0.b.Lo).tmod a0.size) ∧ ((a0.b.Lo).tmod a0.size) ≤ 18446744073709551615 from (tmod_rng (by omega) (by omega))).1 w46) ?_
  refine WR.batch 1 [(2, pt g12 0), (42, .agg #[.int .u64 (sShr .u64 a0.a.Lo ((a0.b.Hi).tmod a0.size)), .int .u64 (sShr .u64 a0.a.Hi ((a0.b.Lo).tmod a0.size))])] (by kernel_rfl) ?_
  refine WR.store (t := 25) (o := 0) (v := .agg #[.int .u64 (sShr .u64 a0.a.Lo ((a0.b.Hi).tmod a0.size)), .int .u64 (sShr .u64 a0.a.Hi ((a0.b.Lo).tmod a0.size))]) hb51 (by kernel_rfl) #[.int .u64 (sShr .u64 a0.a.Lo ((a0.b.Hi).tmod a0.size)), .int .u64 (sShr .u64 a0.a.Hi ((a0.b.Lo).tmod a0.size))] (by kernel_rfl) ?_
  intro w53 hb54 hc55
  have hz57 := hc55.size
  have hC56 := hC48.step1 hc55 (by omega)
  have hb58 := hb50.chg1 hc55 (by omega)
  refine WR.fin (by kernel_rfl) ?_
  refine go hK52 ?_
  refine CW.ret ?_
  exact retC [.agg #[.int .u64 (sShr .u64 a0.a.Lo ((a0.b.Hi).tmod a0.size)), .int .u64 (sShr .u64 a0.a.Hi ((a0.b.Lo).tmod a0.size))]] (.agg #[.int .u64 (sShr .u64 a0.a.Lo ((a0.b.Hi).tmod a0.size)), .int .u64 (sShr .u64 a0.a.Hi ((a0.b.Lo).tmod a0.size))]) rfl ⟨resCell hb54 rfl (by kernel_rfl), trivial⟩ (⟨hC56, (congrArg (fun r : TSpan => (.agg #[.int .u64 r.Lo, .int .u64 r.Hi] : Value)) hs43).symm⟩)
 have hs59 := ifF ht42 hs35
 refine CW.seq fun K60 hK60 => ?_
 refine CW.region ?_
 refine WR.batch 2 [(1, pt g2 0), (2, pt g12 0), (3, .int .u64 a0.b.Hi), (4, .int .u64 a0.b.Lo), (24, .int .u64 a0.b.Hi), (25, pt g2 6)] (by kernel_rfl) ?_
 refine WR.load (dst := some 26) (t := 23) (o := 6) hb40 (by kernel_rfl) (.int .u64 a0.size) (by kernel_rfl) ?_
 refine WR.batch 2 [(1, pt g2 0), (2, pt g12 0), (3, .int .u64 a0.b.Hi), (4, .int .u64 a0.b.Lo), (23, .bool (decide (a0.b.Hi ≥ a0.size)))] (by kernel_rfl) ?_
 refine WR.fin (by kernel_rfl) ?_
 refine go hK60 ?_
 refine CW.cond (decide (a0.b.Hi ≥ a0.size)) (by kernel_rfl) (fun ht61 => ?_) (fun ht61 => ?_)
 ·
  have hs62 := ifT ht61 hs59
  replace ht61 : a0.b.Hi ≥ a0.size := (of_decide_eq_true ht61)
  refine CW.seq fun K63 hK63 => ?_
  refine CW.region ?_
  refine WR.batch 2 [(2, pt g12 0), (29, pt g2 1)] (by kernel_rfl) ?_
  refine WR.load (dst := some 30) (t := 23) (o := 1) hb40 (by kernel_rfl) (.int .u64 a0.a.Hi) (by kernel_rfl) ?_
  refine WR.batch 1 [(2, pt g12 0), (31, .agg #[.int .u64 0, .int .u64 a0.a.Hi])] (by kernel_rfl) ?_
  refine WR.store (t := 25) (o := 0) (v := .agg #[.int .u64 0, .int .u64 a0.a.Hi]) hb41 (by kernel_rfl) #[.int .u64 0, .int .u64 a0.a.Hi] (by kernel_rfl) ?_
  intro w64 hb65 hc66
  have hz68 := hc66.size
  have hC67 := hC38.step1 hc66 (by omega)
  have hb69 := hb40.chg1 hc66 (by omega)
  refine WR.fin (by kernel_rfl) ?_
  refine go hK63 ?_
  refine CW.ret ?_
  exact retC [.agg #[.int .u64 0, .int .u64 a0.a.Hi]] (.agg #[.int .u64 0, .int .u64 a0.a.Hi]) rfl ⟨resCell hb65 rfl (by kernel_rfl), trivial⟩ (⟨hC67, (congrArg (fun r : TSpan => (.agg #[.int .u64 r.Lo, .int .u64 r.Hi] : Value)) hs62).symm⟩)
 have hs70 := ifF ht61 hs59
 replace ht61 : ¬ (a0.b.Hi ≥ a0.size) := (of_decide_eq_false ht61)
 refine CW.skip ?_
 refine go hK31 ?_
 refine CW.seq fun K71 hK71 => ?_
 refine CW.region ?_
 refine WR.batch 2 [(1, pt g2 0), (2, pt g12 0), (3, .int .u64 a0.b.Hi), (4, .int .u64 a0.b.Lo), (33, pt g2 0)] (by kernel_rfl) ?_
 refine WR.load (dst := some 34) (t := 23) (o := 0) hb40 (by kernel_rfl) (.int .u64 a0.a.Lo) (by kernel_rfl) ?_
 refine WR.batch 1 [(1, pt g2 0), (2, pt g12 0), (4, .int .u64 a0.b.Lo), (34, .int .u64 a0.a.Lo), (35, .int .u64 a0.b.Hi)] (by kernel_rfl) ?_
 refine WR.valR (dst := some 36) (v := .int .u64 (sShr .u64 a0.a.Lo a0.b.Hi)) (w' := w36) (run_shr (kk := .u64) (k' := .u64) (x := a0.a.Lo) (y := a0.b.Hi) (by kernel_rfl) (by omega) w36) ?_
 refine WR.batch 2 [(2, pt g12 0), (4, .int .u64 a0.b.Lo), (36, .int .u64 (sShr .u64 a0.a.Lo a0.b.Hi)), (38, pt g2 1)] (by kernel_rfl) ?_
 refine WR.load (dst := some 39) (t := 23) (o := 1) hb40 (by kernel_rfl) (.int .u64 a0.a.Hi) (by kernel_rfl) ?_
 refine WR.batch 1 [(2, pt g12 0), (36, .int .u64 (sShr .u64 a0.a.Lo a0.b.Hi)), (39, .int .u64 a0.a.Hi), (40, .int .u64 a0.b.Lo)] (by kernel_rfl) ?_
 refine WR.valR (dst := some 41) (v := .int .u64 (sShr .u64 a0.a.Hi a0.b.Lo)) (w' := w36) (run_shr (kk := .u64) (k' := .u64) (x := a0.a.Hi) (y := a0.b.Lo) (by kernel_rfl) (by omega) w36) ?_
 refine WR.batch 1 [(2, pt g12 0), (42, .agg #[.int .u64 (sShr .u64 a0.a.Lo a0.b.Hi), .int .u64 (sShr .u64 a0.a.Hi a0.b.Lo)])] (by kernel_rfl) ?_
 refine WR.store (t := 25) (o := 0) (v := .agg #[.int .u64 (sShr .u64 a0.a.Lo a0.b.Hi), .int .u64 (sShr .u64 a0.a.Hi a0.b.Lo)]) hb41 (by kernel_rfl) #[.int .u64 (sShr .u64 a0.a.Lo a0.b.Hi), .int .u64 (sShr .u64 a0.a.Hi a0.b.Lo)] (by kernel_rfl) ?_
 intro w72 hb73 hc74
 have hz76 := hc74.size
 have hC75 := hC38.step1 hc74 (by omega)
 have hb77 := hb40.chg1 hc74 (by omega)
 refine WR.fin (by kernel_rfl) ?_
 refine go hK71 ?_
 refine CW.ret ?_
 exact retC [.agg #[.int .u64 (sShr .u64 a0.a.Lo a0.b.Hi), .int .u64 (sShr .u64 a0.a.Hi a0.b.Lo)]] (.agg #[.int .u64 (sShr .u64 a0.a.Lo a0.b.Hi), .int .u64 (sShr .u64 a0.a.Hi a0.b.Lo)]) rfl ⟨resCell hb73 rfl (by kernel_rfl), trivial⟩ (⟨hC75, (congrArg (fun r : TSpan => (.agg #[.int .u64 r.Lo, .int .u64 r.Hi] : Value)) hs70).symm⟩)

def span_work_sar (a0 : Twork)  : Option TSpan := (letF (span_one a0.b) fun x25 => (optF (span_must (x25 && (!(span_work_mixed a0 a0.a)))) (none) fun _ => (letF (alu_Do (11 : Int) a0.narrow a0.a.Lo a0.b.Lo) fun x65 => (letF (alu_Do (11 : Int) a0.narrow a0.a.Hi a0.b.Lo) fun x77 => some (⟨x65.1, x77.1⟩ : TSpan)))))

theorem span_work_sar_ok (a0 : Twork)  (_h_a0 : (0 ≤ a0.a.Lo ∧ a0.a.Lo ≤ 18446744073709551615) ∧ (0 ≤ a0.a.Hi ∧ a0.a.Hi ≤ 18446744073709551615) ∧ (0 ≤ a0.b.Lo ∧ a0.b.Lo ≤ 18446744073709551615) ∧ (0 ≤ a0.b.Hi ∧ a0.b.Hi ≤ 18446744073709551615) ∧ (0 ≤ a0.most ∧ a0.most ≤ 18446744073709551615) ∧ (0 ≤ a0.size ∧ a0.size ≤ 18446744073709551615))  : ∀ y, (span_work_sar a0) = some y → (0 ≤ y.Lo ∧ y.Lo ≤ 18446744073709551615) ∧ (0 ≤ y.Hi ∧ y.Hi ≤ 18446744073709551615) := by
 rw [span_work_sar.eq_1]
 refine letR (p := fun r : Option TSpan => ∀ y, r = some y → (0 ≤ y.Lo ∧ y.Lo ≤ 18446744073709551615) ∧ (0 ≤ y.Hi ∧ y.Hi ≤ 18446744073709551615)) fun x25 _ => ?_
 refine optR (p := fun r : Option TSpan => ∀ y, r = some y → (0 ≤ y.Lo ∧ y.Lo ≤ 18446744073709551615) ∧ (0 ≤ y.Hi ∧ y.Hi ≤ 18446744073709551615)) (fun _ => ?_) (fun x48 _ => ?_)
 ·
  intro y hy; cases hy
 refine letR (p := fun r : Option TSpan => ∀ y, r = some y → (0 ≤ y.Lo ∧ y.Lo ≤ 18446744073709551615) ∧ (0 ≤ y.Hi ∧ y.Hi ≤ 18446744073709551615)) fun x65 hx66 => ?_
 have hx67 : (0 ≤ x65.1 ∧ x65.1 ≤ 18446744073709551615) ∧ (-9223372036854775808 ≤ x65.2 ∧ x65.2 ≤ 9223372036854775807) := by rw [← hx66]; exact alu_Do_ok (11 : Int) a0.narrow a0.a.Lo a0.b.Lo (by omega) (by omega) (by omega) 
 refine letR (p := fun r : Option TSpan => ∀ y, r = some y → (0 ≤ y.Lo ∧ y.Lo ≤ 18446744073709551615) ∧ (0 ≤ y.Hi ∧ y.Hi ≤ 18446744073709551615)) fun x77 hx78 => ?_
 have hx79 : (0 ≤ x77.1 ∧ x77.1 ≤ 18446744073709551615) ∧ (-9223372036854775808 ≤ x77.2 ∧ x77.2 ≤ 9223372036854775807) := by rw [← hx78]; exact alu_Do_ok (11 : Int) a0.narrow a0.a.Hi a0.b.Lo (by omega) (by omega) (by omega) 
 intro y hy; cases hy; exact (by exact (show (0 ≤ x65.1 ∧ x65.1 ≤ 18446744073709551615) ∧ (0 ≤ x77.1 ∧ x77.1 ≤ 18446744073709551615) from ⟨(by omega), (by omega)⟩))

set_option maxHeartbeats 4000000 in
theorem span_work_sar_any (a0 : Twork)   (w : World)  (_h_a0 : (0 ≤ a0.a.Lo ∧ a0.a.Lo ≤ 18446744073709551615) ∧ (0 ≤ a0.a.Hi ∧ a0.a.Hi ≤ 18446744073709551615) ∧ (0 ≤ a0.b.Lo ∧ a0.b.Lo ≤ 18446744073709551615) ∧ (0 ≤ a0.b.Hi ∧ a0.b.Hi ≤ 18446744073709551615) ∧ (0 ≤ a0.most ∧ a0.most ≤ 18446744073709551615) ∧ (0 ≤ a0.size ∧ a0.size ≤ 18446744073709551615))  : Calls Try.prog 86 #[.agg #[.int .u64 a0.a.Lo, .int .u64 a0.a.Hi, .int .u64 a0.b.Lo, .int .u64 a0.b.Hi, .bool a0.narrow, .int .u64 a0.most, .int .u64 a0.size]] w (RetP w (.iface 76 (.agg #[])) (((span_work_sar a0)).map fun r : TSpan => (.agg #[.int .u64 r.Lo, .int .u64 r.Hi] : Value))) := by
 have hs := span_work_sar.eq_1 a0
 refine calls_of_CW Try.func86 rfl (n := 45) Try.ntmps86 (by kernel_rfl) [0] (F := [(0, .agg #[.int .u64 a0.a.Lo, .int .u64 a0.a.Hi, .int .u64 a0.b.Lo, .int .u64 a0.b.Hi, .bool a0.narrow, .int .u64 a0.most, .int .u64 a0.size])]) (by kernel_rfl) ?_
 refine CW.seq fun K1 hK1 => ?_
 refine CW.region ?_
 refine WR.box (dst := some 1) (e := 79) (v := .agg #[.int .u64 a0.a.Lo, .int .u64 a0.a.Hi, .int .u64 a0.b.Lo, .int .u64 a0.b.Hi, .bool a0.narrow, .int .u64 a0.most, .int .u64 a0.size]) (by kernel_rfl) #[.int .u64 a0.a.Lo, .int .u64 a0.a.Hi, .int .u64 a0.b.Lo, .int .u64 a0.b.Hi, .bool a0.narrow, .int .u64 a0.most, .int .u64 a0.size] (by kernel_rfl) ?_
 intro g2 w3 hN4
 have hf6 : w.heap.size ≤ g2 := hN4.fresh
 have hfr8 := hN4.fresh
 have hc7 := hN4.chg
 have hz10 := hc7.size
 have hC9 := (Chg.refl [] w).pure hc7
 have hb5 := hN4.blk
 have hg11 := hb5.lt
 refine WR.alloc (dst := some 2) (e := 25) (by kernel_rfl) #[.int .u64 0, .int .u64 0] (by kernel_rfl) ?_
 intro g12 w13 hN14
 have hl17 : g2 < g12 := Nat.lt_of_lt_of_le hb5.lt hN14.fresh
 have hf16 : w.heap.size ≤ g12 := Nat.le_trans hC9.size hN14.fresh
 have hfr19 := hN14.fresh
 have hc18 := hN14.chg
 have hz21 := hc18.size
 have hC20 := hC9.pure hc18
 have hb22 := hb5.pure hc18
 have hb15 := hN14.blk
 have hg23 := hb15.lt
 refine WR.fin (by kernel_rfl) ?_
 refine go hK1 ?_
 refine CW.seq fun K24 hK24 => ?_
 refine CW.region ?_
 refine WR.batch 1 [(1, pt g2 0), (2, pt g12 0), (7, pt g2 2)] (by kernel_rfl) ?_
 refine WR.load (dst := some 8) (t := 25) (o := 2) hb22 (by kernel_rfl) (.agg #[.int .u64 a0.b.Lo, .int .u64 a0.b.Hi]) (by kernel_rfl) ?_
 obtain ⟨x25, hx26⟩ : ∃ x, span_one a0.b = x := ⟨_, rfl⟩
 have hs27 := letS hx26 hs
 refine WR.call (dst := some 9) (by kernel_rfl) (retE (g := fun r : Bool => (.bool r : Value)) hx26 (span_one_any a0.b w13  ⟨(by omega), (by omega)⟩ )) ?_
 rintro _ w28 hc29 rfl
 have hz31 := hc29.size
 have hC30 := hC20.pure hc29
 have hb32 := hb22.pure hc29
 have hb33 := hb15.pure hc29
 refine WR.batch 1 [(1, pt g2 0), (2, pt g12 0), (10, .bool x25)] (by kernel_rfl) ?_
 refine WR.mergeW 10 [(1, pt g2 0), (2, pt g12 0), (16, .bool (x25 && (!(span_work_mixed a0 a0.a))))] (fun w' => Chg [] w28 w') (fun Q' => ?_) ?_
 ·
  cases hg34 : x25
  ·
   intro hM35
   refine WR.batch 6 [(1, pt g2 0), (2, pt g12 0), (16, .bool false)] (by kernel_rfl) ?_
   exact WR.keep [1, 2, 16] (by kernel_rfl) (hM35 _ (Chg.refl [] w28))
  ·
   intro hM35
   refine WR.load (dst := some 11) (t := 79) (o := 0) hb32 (by kernel_rfl) (.agg #[.int .u64 a0.a.Lo, .int .u64 a0.a.Hi, .int .u64 a0.b.Lo, .int .u64 a0.b.Hi, .bool a0.narrow, .int .u64 a0.most, .int .u64 a0.size]) (by kernel_rfl) ?_
   refine WR.batch 1 [(1, pt g2 0), (2, pt g12 0), (10, .bool true), (11, .agg #[.int .u64 a0.a.Lo, .int .u64 a0.a.Hi, .int .u64 a0.b.Lo, .int .u64 a0.b.Hi, .bool a0.narrow, .int .u64 a0.most, .int .u64 a0.size]), (12, pt g2 0)] (by kernel_rfl) ?_
   refine WR.load (dst := some 13) (t := 25) (o := 0) hb32 (by kernel_rfl) (.agg #[.int .u64 a0.a.Lo, .int .u64 a0.a.Hi]) (by kernel_rfl) ?_
   refine WR.call (dst := some 14) (by kernel_rfl) (span_work_mixed_any a0 a0.a w28  ⟨(by omega), (by omega), (by omega), (by omega), (by omega), (by omega)⟩ ⟨(by omega), (by omega)⟩ ) ?_
   rintro _ w36 hc37 rfl
   have hz39 := hc37.size
   have hC38 := hC30.pure hc37
   have hb40 := hb32.pure hc37
   have hb41 := hb33.pure hc37
   refine WR.batch 2 [(1, pt g2 0), (2, pt g12 0), (16, .bool (!(span_work_mixed a0 a0.a)))] (by kernel_rfl) ?_
   exact WR.keep [1, 2, 16] (by kernel_rfl) (hM35 _ ((Chg.refl [] w28).pure hc37))
 intro w42 hc43
 have hz45 := hc43.size
 have hC44 := hC30.pure hc43
 have hb46 := hb32.pure hc43
 have hb47 := hb33.pure hc43
 rcases hx49 : span_must (x25 && (!(span_work_mixed a0 a0.a))) with _ | x48
 ·
  have hs52 := optN hx49 hs27
  refine WR.callX (dst := some 17) (by kernel_rfl) (retP_no (g := fun r : Unit => (.tuple #[] : Value)) hx49 (span_must_any (x25 && (!(span_work_mixed a0 a0.a))) w42  )) ?_
  intro w50 hc51
  have hz54 := hc51.size
  have hC53 := hC44.pure hc51
  have hb55 := hb46.pure hc51
  have hb56 := hb47.pure hc51
  exact panicV (P := Try.prog) (fn := Try.f86) (retP_pan hs52 hC53)
 have hs57 := optS hx49 hs27
 refine WR.call (dst := some 17) (by kernel_rfl) (retP_yes (g := fun r : Unit => (.tuple #[] : Value)) hx49 (span_must_any (x25 && (!(span_work_mixed a0 a0.a))) w42  )) ?_
 rintro _ w58 hc59 rfl
 have hz61 := hc59.size
 have hC60 := hC44.pure hc59
 have hb62 := hb46.pure hc59
 have hb63 := hb47.pure hc59
 refine WR.fin (by kernel_rfl) ?_
 refine go hK24 ?_
 refine CW.seq fun K64 hK64 => ?_
 refine CW.region ?_
 refine WR.batch 1 [(1, pt g2 0), (2, pt g12 0), (19, pt g2 4)] (by kernel_rfl) ?_
 refine WR.load (dst := some 20) (t := 4) (o := 4) hb62 (by kernel_rfl) (.bool a0.narrow) (by kernel_rfl) ?_
 refine WR.batch 2 [(1, pt g2 0), (2, pt g12 0), (20, .bool a0.narrow), (22, pt g2 0)] (by kernel_rfl) ?_
 refine WR.load (dst := some 23) (t := 23) (o := 0) hb62 (by kernel_rfl) (.int .u64 a0.a.Lo) (by kernel_rfl) ?_
 refine WR.batch 2 [(1, pt g2 0), (2, pt g12 0), (20, .bool a0.narrow), (23, .int .u64 a0.a.Lo), (25, pt g2 2)] (by kernel_rfl) ?_
 refine WR.load (dst := some 26) (t := 23) (o := 2) hb62 (by kernel_rfl) (.int .u64 a0.b.Lo) (by kernel_rfl) ?_
 obtain ⟨x65, hx66⟩ : ∃ x, alu_Do (11 : Int) a0.narrow a0.a.Lo a0.b.Lo = x := ⟨_, rfl⟩
 have hs68 := letS hx66 hs57
 have hx69 : (0 ≤ x65.1 ∧ x65.1 ≤ 18446744073709551615) ∧ (-9223372036854775808 ≤ x65.2 ∧ x65.2 ≤ 9223372036854775807) := by rw [← hx66]; exact alu_Do_ok (11 : Int) a0.narrow a0.a.Lo a0.b.Lo (by omega) (by omega) (by omega) 
 refine WR.call (dst := some 27) (by kernel_rfl) (retE (g := fun r : (Int × Int) => (.tuple #[.int .u64 r.1, .int .i64 r.2] : Value)) hx66 (alu_Do_any (11 : Int) a0.narrow a0.a.Lo a0.b.Lo w58  (by omega) (by omega) (by omega) )) ?_
 rintro _ w70 hc71 rfl
 have hz73 := hc71.size
 have hC72 := hC60.pure hc71
 have hb74 := hb62.pure hc71
 have hb75 := hb63.pure hc71
 refine WR.batch 5 [(1, pt g2 0), (2, pt g12 0), (3, .int .u64 x65.1)] (by kernel_rfl) ?_
 refine WR.fin (by kernel_rfl) ?_
 refine go hK64 ?_
 refine CW.seq fun K76 hK76 => ?_
 refine CW.region ?_
 refine WR.batch 1 [(1, pt g2 0), (2, pt g12 0), (3, .int .u64 x65.1), (31, pt g2 4)] (by kernel_rfl) ?_
 refine WR.load (dst := some 32) (t := 4) (o := 4) hb74 (by kernel_rfl) (.bool a0.narrow) (by kernel_rfl) ?_
 refine WR.batch 2 [(1, pt g2 0), (2, pt g12 0), (3, .int .u64 x65.1), (32, .bool a0.narrow), (34, pt g2 1)] (by kernel_rfl) ?_
 refine WR.load (dst := some 35) (t := 23) (o := 1) hb74 (by kernel_rfl) (.int .u64 a0.a.Hi) (by kernel_rfl) ?_
 refine WR.batch 2 [(2, pt g12 0), (3, .int .u64 x65.1), (32, .bool a0.narrow), (35, .int .u64 a0.a.Hi), (37, pt g2 2)] (by kernel_rfl) ?_
 refine WR.load (dst := some 38) (t := 23) (o := 2) hb74 (by kernel_rfl) (.int .u64 a0.b.Lo) (by kernel_rfl) ?_
 obtain ⟨x77, hx78⟩ : ∃ x, alu_Do (11 : Int) a0.narrow a0.a.Hi a0.b.Lo = x := ⟨_, rfl⟩
 have hs80 := letS hx78 hs68
 have hx81 : (0 ≤ x77.1 ∧ x77.1 ≤ 18446744073709551615) ∧ (-9223372036854775808 ≤ x77.2 ∧ x77.2 ≤ 9223372036854775807) := by rw [← hx78]; exact alu_Do_ok (11 : Int) a0.narrow a0.a.Hi a0.b.Lo (by omega) (by omega) (by omega) 
 refine WR.call (dst := some 39) (by kernel_rfl) (retE (g := fun r : (Int × Int) => (.tuple #[.int .u64 r.1, .int .i64 r.2] : Value)) hx78 (alu_Do_any (11 : Int) a0.narrow a0.a.Hi a0.b.Lo w70  (by omega) (by omega) (by omega) )) ?_
 rintro _ w82 hc83 rfl
 have hz85 := hc83.size
 have hC84 := hC72.pure hc83
 have hb86 := hb74.pure hc83
 have hb87 := hb75.pure hc83
 refine WR.batch 5 [(2, pt g12 0), (3, .int .u64 x65.1), (5, .int .u64 x77.1)] (by kernel_rfl) ?_
 refine WR.fin (by kernel_rfl) ?_
 refine go hK76 ?_
 refine CW.seq fun K88 hK88 => ?_
 refine CW.region ?_
 refine WR.batch 3 [(2, pt g12 0), (44, .agg #[.int .u64 x65.1, .int .u64 x77.1])] (by kernel_rfl) ?_
 refine WR.store (t := 25) (o := 0) (v := .agg #[.int .u64 x65.1, .int .u64 x77.1]) hb87 (by kernel_rfl) #[.int .u64 x65.1, .int .u64 x77.1] (by kernel_rfl) ?_
 intro w89 hb90 hc91
 have hz93 := hc91.size
 have hC92 := hC84.step1 hc91 (by omega)
 have hb94 := hb86.chg1 hc91 (by omega)
 refine WR.fin (by kernel_rfl) ?_
 refine go hK88 ?_
 refine CW.ret ?_
 exact retC [.agg #[.int .u64 x65.1, .int .u64 x77.1]] (.agg #[.int .u64 x65.1, .int .u64 x77.1]) rfl ⟨resCell hb90 rfl (by kernel_rfl), trivial⟩ (retP_ret (g := (fun r : TSpan => (.agg #[.int .u64 r.Lo, .int .u64 r.Hi] : Value))) hs80 rfl hC92)

def span_work_set (a0 : Twork) (a1 : Bool)  : Option (TSpan × TSpan) := (if (!a1) then (letF (span_work_both a0) fun x44 => (optF (span_must ((!x44) || (!((bAnd .u64 a0.a.Lo a0.b.Lo) != (0 : Int))))) (none) fun _ => some (a0.a, a0.b))) else (optF (span_must (((decide (a0.a.Hi > (0 : Int))) && (decide (a0.b.Hi > (0 : Int)))) && ((!(span_work_both a0)) || ((bAnd .u64 a0.a.Lo a0.b.Lo) != (0 : Int))))) (none) fun _ => some ((⟨(gMax a0.a.Lo (1 : Int)), a0.a.Hi⟩ : TSpan), (⟨(gMax a0.b.Lo (1 : Int)), a0.b.Hi⟩ : TSpan))))

theorem span_work_set_ok (a0 : Twork) (a1 : Bool)  (_h_a0 : (0 ≤ a0.a.Lo ∧ a0.a.Lo ≤ 18446744073709551615) ∧ (0 ≤ a0.a.Hi ∧ a0.a.Hi ≤ 18446744073709551615) ∧ (0 ≤ a0.b.Lo ∧ a0.b.Lo ≤ 18446744073709551615) ∧ (0 ≤ a0.b.Hi ∧ a0.b.Hi ≤ 18446744073709551615) ∧ (0 ≤ a0.most ∧ a0.most ≤ 18446744073709551615) ∧ (0 ≤ a0.size ∧ a0.size ≤ 18446744073709551615))  : ∀ y, (span_work_set a0 a1) = some y → (0 ≤ y.1.Lo ∧ y.1.Lo ≤ 18446744073709551615) ∧ (0 ≤ y.1.Hi ∧ y.1.Hi ≤ 18446744073709551615) ∧ (0 ≤ y.2.Lo ∧ y.2.Lo ≤ 18446744073709551615) ∧ (0 ≤ y.2.Hi ∧ y.2.Hi ≤ 18446744073709551615) := by
 rw [span_work_set.eq_1]
 refine iteR (p := fun r : Option (TSpan × TSpan) => ∀ y, r = some y → (0 ≤ y.1.Lo ∧ y.1.Lo ≤ 18446744073709551615) ∧ (0 ≤ y.1.Hi ∧ y.1.Hi ≤ 18446744073709551615) ∧ (0 ≤ y.2.Lo ∧ y.2.Lo ≤ 18446744073709551615) ∧ (0 ≤ y.2.Hi ∧ y.2.Hi ≤ 18446744073709551615)) (fun hi1001 => ?_) (fun hi1001 => ?_)
 ·
  replace hi1001 : a1 = false := (bNotT hi1001)
  refine letR (p := fun r : Option (TSpan × TSpan) => ∀ y, r = some y → (0 ≤ y.1.Lo ∧ y.1.Lo ≤ 18446744073709551615) ∧ (0 ≤ y.1.Hi ∧ y.1.Hi ≤ 18446744073709551615) ∧ (0 ≤ y.2.Lo ∧ y.2.Lo ≤ 18446744073709551615) ∧ (0 ≤ y.2.Hi ∧ y.2.Hi ≤ 18446744073709551615)) fun x44 _ => ?_
  refine optR (p := fun r : Option (TSpan × TSpan) => ∀ y, r = some y → (0 ≤ y.1.Lo ∧ y.1.Lo ≤ 18446744073709551615) ∧ (0 ≤ y.1.Hi ∧ y.1.Hi ≤ 18446744073709551615) ∧ (0 ≤ y.2.Lo ∧ y.2.Lo ≤ 18446744073709551615) ∧ (0 ≤ y.2.Hi ∧ y.2.Hi ≤ 18446744073709551615)) (fun _ => ?_) (fun x54 _ => ?_)
  ·
   intro y hy; cases hy
  intro y hy; cases hy; exact (by exact (show (0 ≤ a0.a.Lo ∧ a0.a.Lo ≤ 18446744073709551615) ∧ (0 ≤ a0.a.Hi ∧ a0.a.Hi ≤ 18446744073709551615) ∧ (0 ≤ a0.b.Lo ∧ a0.b.Lo ≤ 18446744073709551615) ∧ (0 ≤ a0.b.Hi ∧ a0.b.Hi ≤ 18446744073709551615) from ⟨(by omega), (by omega), (by omega), (by omega)⟩))
 replace hi1001 : a1 = true := (bNotF hi1001)
 refine optR (p := fun r : Option (TSpan × TSpan) => ∀ y, r = some y → (0 ≤ y.1.Lo ∧ y.1.Lo ≤ 18446744073709551615) ∧ (0 ≤ y.1.Hi ∧ y.1.Hi ≤ 18446744073709551615) ∧ (0 ≤ y.2.Lo ∧ y.2.Lo ≤ 18446744073709551615) ∧ (0 ≤ y.2.Hi ∧ y.2.Hi ≤ 18446744073709551615)) (fun _ => ?_) (fun x157 _ => ?_)
 ·
  intro y hy; cases hy
 intro y hy; cases hy; exact (by exact (show (0 ≤ (gMax a0.a.Lo (1 : Int)) ∧ (gMax a0.a.Lo (1 : Int)) ≤ 18446744073709551615) ∧ (0 ≤ a0.a.Hi ∧ a0.a.Hi ≤ 18446744073709551615) ∧ (0 ≤ (gMax a0.b.Lo (1 : Int)) ∧ (gMax a0.b.Lo (1 : Int)) ≤ 18446744073709551615) ∧ (0 ≤ a0.b.Hi ∧ a0.b.Hi ≤ 18446744073709551615) from ⟨(gMax_rng (by omega) (by omega)), (by omega), (gMax_rng (by omega) (by omega)), (by omega)⟩))

set_option maxHeartbeats 4000000 in
theorem span_work_set_any (a0 : Twork) (a1 : Bool)   (w : World)  (_h_a0 : (0 ≤ a0.a.Lo ∧ a0.a.Lo ≤ 18446744073709551615) ∧ (0 ≤ a0.a.Hi ∧ a0.a.Hi ≤ 18446744073709551615) ∧ (0 ≤ a0.b.Lo ∧ a0.b.Lo ≤ 18446744073709551615) ∧ (0 ≤ a0.b.Hi ∧ a0.b.Hi ≤ 18446744073709551615) ∧ (0 ≤ a0.most ∧ a0.most ≤ 18446744073709551615) ∧ (0 ≤ a0.size ∧ a0.size ≤ 18446744073709551615))  : Calls Try.prog 90 #[.agg #[.int .u64 a0.a.Lo, .int .u64 a0.a.Hi, .int .u64 a0.b.Lo, .int .u64 a0.b.Hi, .bool a0.narrow, .int .u64 a0.most, .int .u64 a0.size], .bool a1] w (RetP w (.iface 76 (.agg #[])) (((span_work_set a0 a1)).map fun r : (TSpan × TSpan) => (.tuple #[.agg #[.int .u64 r.1.Lo, .int .u64 r.1.Hi], .agg #[.int .u64 r.2.Lo, .int .u64 r.2.Hi]] : Value))) := by
 have hs := span_work_set.eq_1 a0 a1
 refine calls_of_CW Try.func90 rfl (n := 64) Try.ntmps90 (by kernel_rfl) [0, 1] (F := [(0, .agg #[.int .u64 a0.a.Lo, .int .u64 a0.a.Hi, .int .u64 a0.b.Lo, .int .u64 a0.b.Hi, .bool a0.narrow, .int .u64 a0.most, .int .u64 a0.size]), (1, .bool a1)]) (by kernel_rfl) ?_
 refine CW.seq fun K1 hK1 => ?_
 refine CW.region ?_
 refine WR.box (dst := some 2) (e := 79) (v := .agg #[.int .u64 a0.a.Lo, .int .u64 a0.a.Hi, .int .u64 a0.b.Lo, .int .u64 a0.b.Hi, .bool a0.narrow, .int .u64 a0.most, .int .u64 a0.size]) (by kernel_rfl) #[.int .u64 a0.a.Lo, .int .u64 a0.a.Hi, .int .u64 a0.b.Lo, .int .u64 a0.b.Hi, .bool a0.narrow, .int .u64 a0.most, .int .u64 a0.size] (by kernel_rfl) ?_
 intro g2 w3 hN4
 have hf6 : w.heap.size ≤ g2 := hN4.fresh
 have hfr8 := hN4.fresh
 have hc7 := hN4.chg
 have hz10 := hc7.size
 have hC9 := (Chg.refl [] w).pure hc7
 have hb5 := hN4.blk
 have hg11 := hb5.lt
 refine WR.alloc (dst := some 4) (e := 25) (by kernel_rfl) #[.int .u64 0, .int .u64 0] (by kernel_rfl) ?_
 intro g12 w13 hN14
 have hl17 : g2 < g12 := Nat.lt_of_lt_of_le hb5.lt hN14.fresh
 have hf16 : w.heap.size ≤ g12 := Nat.le_trans hC9.size hN14.fresh
 have hfr19 := hN14.fresh
 have hc18 := hN14.chg
 have hz21 := hc18.size
 have hC20 := hC9.pure hc18
 have hb22 := hb5.pure hc18
 have hb15 := hN14.blk
 have hg23 := hb15.lt
 refine WR.alloc (dst := some 5) (e := 25) (by kernel_rfl) #[.int .u64 0, .int .u64 0] (by kernel_rfl) ?_
 intro g24 w25 hN26
 have hl29 : g2 < g24 := Nat.lt_of_lt_of_le hb22.lt hN26.fresh
 have hl30 : g12 < g24 := Nat.lt_of_lt_of_le hb15.lt hN26.fresh
 have hf28 : w.heap.size ≤ g24 := Nat.le_trans hC20.size hN26.fresh
 have hfr32 := hN26.fresh
 have hc31 := hN26.chg
 have hz34 := hc31.size
 have hC33 := hC20.pure hc31
 have hb35 := hb22.pure hc31
 have hb36 := hb15.pure hc31
 have hb27 := hN26.blk
 have hg37 := hb27.lt
 refine WR.fin (by kernel_rfl) ?_
 refine go hK1 ?_
 refine CW.seq fun K38 hK38 => ?_
 refine CW.region ?_
 refine WR.batch 2 [(1, .bool a1), (2, pt g2 0), (4, pt g12 0), (5, pt g24 0), (8, pt g2 0)] (by kernel_rfl) ?_
 refine WR.load (dst := some 9) (t := 23) (o := 0) hb35 (by kernel_rfl) (.int .u64 a0.a.Lo) (by kernel_rfl) ?_
 refine WR.batch 2 [(1, .bool a1), (2, pt g2 0), (4, pt g12 0), (5, pt g24 0), (9, .int .u64 a0.a.Lo), (11, pt g2 2)] (by kernel_rfl) ?_
 refine WR.load (dst := some 12) (t := 23) (o := 2) hb35 (by kernel_rfl) (.int .u64 a0.b.Lo) (by kernel_rfl) ?_
 refine WR.batch 3 [(1, .bool a1), (2, pt g2 0), (4, pt g12 0), (5, pt g24 0), (6, .bool ((bAnd .u64 a0.a.Lo a0.b.Lo) != (0 : Int)))] (by kernel_rfl) ?_
 refine WR.fin (by kernel_rfl) ?_
 refine go hK38 ?_
 refine CW.seq fun K39 hK39 => ?_
 refine CW.seq fun K40 hK40 => ?_
 refine CW.region ?_
 refine WR.batch 2 [(2, pt g2 0), (4, pt g12 0), (5, pt g24 0), (6, .bool ((bAnd .u64 a0.a.Lo a0.b.Lo) != (0 : Int))), (16, .bool (!a1))] (by kernel_rfl) ?_
 refine WR.fin (by kernel_rfl) ?_
 refine go hK40 ?_
 refine CW.cond ((!a1)) (by kernel_rfl) (fun ht41 => ?_) (fun ht41 => ?_)
 ·
  have hs42 := ifT ht41 hs
  replace ht41 : a1 = false := (bNotT ht41)
  refine CW.seq fun K43 hK43 => ?_
  refine CW.region ?_
  refine WR.load (dst := some 17) (t := 79) (o := 0) hb35 (by kernel_rfl) (.agg #[.int .u64 a0.a.Lo, .int .u64 a0.a.Hi, .int .u64 a0.b.Lo, .int .u64 a0.b.Hi, .bool a0.narrow, .int .u64 a0.most, .int .u64 a0.size]) (by kernel_rfl) ?_
  obtain ⟨x44, hx45⟩ : ∃ x, span_work_both a0 = x := ⟨_, rfl⟩
  have hs46 := letS hx45 hs42
  refine WR.call (dst := some 18) (by kernel_rfl) (retE (g := fun r : Bool => (.bool r : Value)) hx45 (span_work_both_any a0 w25  ⟨(by omega), (by omega), (by omega), (by omega), (by omega), (by omega)⟩ )) ?_
  rintro _ w47 hc48 rfl
  have hz50 := hc48.size
  have hC49 := hC33.pure hc48
  have hb51 := hb35.pure hc48
  have hb52 := hb36.pure hc48
  have hb53 := hb27.pure hc48
  refine WR.batch 2 [(2, pt g2 0), (4, pt g12 0), (5, pt g24 0), (6, .bool ((bAnd .u64 a0.a.Lo a0.b.Lo) != (0 : Int))), (20, .bool (!x44))] (by kernel_rfl) ?_
  refine WR.batch 3 [(2, pt g2 0), (4, pt g12 0), (5, pt g24 0), (23, .bool ((!x44) || (!((bAnd .u64 a0.a.Lo a0.b.Lo) != (0 : Int)))))] (by generalize (!x44) = b; cases b <;> kernel_rfl) ?_
  rcases hx55 : span_must ((!x44) || (!((bAnd .u64 a0.a.Lo a0.b.Lo) != (0 : Int)))) with _ | x54
  ·
   have hs58 := optN hx55 hs46
   refine WR.callX (dst := some 24) (by kernel_rfl) (retP_no (g := fun r : Unit => (.tuple #[] : Value)) hx55 (span_must_any ((!x44) || (!((bAnd .u64 a0.a.Lo a0.b.Lo) != (0 : Int)))) w47  )) ?_
   intro w56 hc57
   have hz60 := hc57.size
   have hC59 := hC49.pure hc57
   have hb61 := hb51.pure hc57
   have hb62 := hb52.pure hc57
   have hb63 := hb53.pure hc57
   exact panicV (P := Try.prog) (fn := Try.f90) (retP_pan hs58 hC59)
  have hs64 := optS hx55 hs46
  refine WR.call (dst := some 24) (by kernel_rfl) (retP_yes (g := fun r : Unit => (.tuple #[] : Value)) hx55 (span_must_any ((!x44) || (!((bAnd .u64 a0.a.Lo a0.b.Lo) != (0 : Int)))) w47  )) ?_
  rintro _ w65 hc66 rfl
  have hz68 := hc66.size
  have hC67 := hC49.pure hc66
  have hb69 := hb51.pure hc66
  have hb70 := hb52.pure hc66
  have hb71 := hb53.pure hc66
  refine WR.fin (by kernel_rfl) ?_
  refine go hK43 ?_
  refine CW.seq fun K72 hK72 => ?_
  refine CW.keep [2, 4, 5] (F' := [(2, pt g2 0), (4, pt g12 0), (5, pt g24 0)]) (by kernel_rfl) ?_
  refine CW.regionG 5 [some (pt g2 0), some (.agg #[.int .u64 a0.a.Lo, .int .u64 a0.a.Hi]), some (pt g2 2), some (.agg #[.int .u64 a0.b.Lo, .int .u64 a0.b.Hi]), none] (fun u => [(25, pt g2 0), (26, .agg #[.int .u64 a0.a.Lo, .int .u64 a0.a.Hi]), (27, pt g2 2), (28, .agg #[.int .u64 a0.b.Lo, .int .u64 a0.b.Hi]), (2, pt g2 0), (4, pt g12 0), (5, pt g24 0)]) (fun _ => by kernel_rfl) (by kernel_rfl) [(4, g12)] (fun i w' => match i with | 0 => True | 1 => True | 2 => True | 3 => True | 4 => Blk w' g12 #[.int .u64 0, .int .u64 0] 25 | _ => True) (fun j => match j with | 0 => trivial | 1 => trivial | 2 => trivial | 3 => trivial | 4 => hb70.pure (Chg.drew w65) | j + 5 => trivial) ?_ [] [] (by kernel_rfl) (fun w' => Chg [g12] w65 w') (fun i v w' => match i with | 0 => True | 1 => True | 2 => True | 3 => True | 4 => Blk w' g12 #[.int .u64 a0.a.Lo, .int .u64 a0.a.Hi] 25 | _ => True) (fun j x w hj h => absurd hj (by simp)) (by kernel_rfl) (by kernel_rfl) (by kernel_rfl) (by kernel_rfl) ((Chg.drew w65).weak (by simp)) (fun _ _ _ h h' => h.step h' (fun t ht => .inl (cL_sub t ht))) ?_ (obsG_batch 1 0 4 (fun _ _ => by kernel_rfl) (by kernel_rfl) ⟨?_, (obsG_batch 1 2 2 (fun _ _ => by kernel_rfl) (by kernel_rfl) ⟨?_, ⟨?_, trivial⟩⟩)⟩) ?_
  ·
   intro i j w1 w2 hij h hc
   match j, hij, h with
   | 0, hij, h => exact trivial
   | 1, hij, h => exact trivial
   | 2, hij, h => exact trivial
   | 3, hij, h => exact trivial
   | 4, hij, h => exact h.chg hc (cL_not (by intro p hp e; simp only [List.mem_cons, List.not_mem_nil, or_false] at hp; rcases hp with rfl <;> (simp only at e ⊢; omega)))
   | n + 5, _, _ => trivial
  ·
   intro i j v w1 w2 hij h hc
   match j, hij, h with
   | 0, _, _ => trivial
   | 1, _, _ => trivial
   | 2, _, _ => trivial
   | 3, _, _ => trivial
   | 4, hij, h => exact h.chg hc (cL_not (by intro p hp e; simp only [List.mem_cons, List.not_mem_nil, or_false] at hp; rcases hp with rfl <;> (simp only at e ⊢; omega)))
   | n + 5, _, _ => trivial
  ·
   intro u73 w74 hW75 hPr78 hp76 hal77
   have hz80 := hW75.size
   have hC79 := hC67.step1 hW75 (by omega)
   have hb81 := hb69.chg1 hW75 (by omega)
   have hb82 := hb71.chg1 hW75 (by omega)
   have hb83 : Blk w74 g12 #[.int .u64 0, .int .u64 0] 25 := hPr78 4 (.inr (.one (by kernel_rfl)))
   refine WR.load (dst := some 26) (t := 25) (o := 0) hb81 (by kernel_rfl) (.agg #[.int .u64 a0.a.Lo, .int .u64 a0.a.Hi]) (by kernel_rfl) ?_
   refine WR.fin (by kernel_rfl) ?_
   exact fun _ ha => ⟨Chg.refl _ _, _, ha, ⟨⟨fun h => absurd h (by decide), alNone (by decide)⟩, rfl⟩⟩
  ·
   intro u84 w85 hW86 _ hp87 hal88
   have hz91 := hW86.size
   have hC90 := hC67.step1 hW86 (by omega)
   have hb92 := hb69.chg1 hW86 (by omega)
   have hb93 := hb71.chg1 hW86 (by omega)
   refine WR.load (dst := some 28) (t := 25) (o := 2) hb92 (by kernel_rfl) (.agg #[.int .u64 a0.b.Lo, .int .u64 a0.b.Hi]) (by kernel_rfl) ?_
   refine WR.fin (by kernel_rfl) ?_
   exact fun _ ha => ⟨Chg.refl _ _, _, ha, ⟨⟨fun h => absurd h (by decide), alNone (by decide)⟩, rfl⟩⟩
  ·
   intro u94 w95 hW96 hPr99 hp97 hal98
   have hz101 := hW96.size
   have hC100 := hC67.step1 hW96 (by omega)
   have hb102 := hb69.chg1 hW96 (by omega)
   have hb103 := hb71.chg1 hW96 (by omega)
   have hb104 : Blk w95 g12 #[.int .u64 0, .int .u64 0] 25 := hPr99 4 (.inl rfl)
   refine WR.store (t := 25) (o := 0) (v := .agg #[.int .u64 a0.a.Lo, .int .u64 a0.a.Hi]) hb104 (by kernel_rfl) #[.int .u64 a0.a.Lo, .int .u64 a0.a.Hi] (by kernel_rfl) ?_
   intro w105 hb106 hc107
   have hz109 := hc107.size
   have hC108 := hC100.step1 hc107 (by omega)
   have hb110 := hb102.chg1 hc107 (by omega)
   have hb111 := hb103.chg1 hc107 (by omega)
   refine WR.fin (by kernel_rfl) ?_
   exact fun _ ha => ⟨hc107, undef, ha, ⟨⟨fun h => absurd h (by decide), alNone (by decide)⟩, hb106⟩⟩
  intro u112 w113 hW114 hr115 _ _
  have hz119 := hW114.size
  have hC118 := hC67.step1 hW114 (by omega)
  have hb120 := hb69.chg1 hW114 (by omega)
  have hb121 := hb71.chg1 hW114 (by omega)
  have hp122 : Blk w113 g12 #[.int .u64 a0.a.Lo, .int .u64 a0.a.Hi] 25 := hr115 4 (by omega) (by kernel_rfl)
  refine WR.keep [4, 5, 28] (F' := [(4, pt g12 0), (5, pt g24 0), (28, .agg #[.int .u64 a0.b.Lo, .int .u64 a0.b.Hi])]) (by kernel_rfl) ?_
  refine WR.store (t := 25) (o := 0) (v := .agg #[.int .u64 a0.b.Lo, .int .u64 a0.b.Hi]) hb121 (by kernel_rfl) #[.int .u64 a0.b.Lo, .int .u64 a0.b.Hi] (by kernel_rfl) ?_
  intro w123 hb124 hc125
  have hz127 := hc125.size
  have hC126 := hC118.step1 hc125 (by omega)
  have hb128 := hb120.chg1 hc125 (by omega)
  have hb129 := hp122.chg1 hc125 (by omega)
  refine WR.fin (by kernel_rfl) ?_
  refine go hK72 ?_
  refine CW.ret ?_
  exact retC [.agg #[.int .u64 a0.a.Lo, .int .u64 a0.a.Hi], .agg #[.int .u64 a0.b.Lo, .int .u64 a0.b.Hi]] (.tuple #[.agg #[.int .u64 a0.a.Lo, .int .u64 a0.a.Hi], .agg #[.int .u64 a0.b.Lo, .int .u64 a0.b.Hi]]) rfl ⟨resCell hb129 rfl (by kernel_rfl), resCell hb124 rfl (by kernel_rfl), trivial⟩ (retP_ret (g := (fun r : (TSpan × TSpan) => (.tuple #[.agg #[.int .u64 r.1.Lo, .int .u64 r.1.Hi], .agg #[.int .u64 r.2.Lo, .int .u64 r.2.Hi]] : Value))) hs64 rfl hC126)
 have hs130 := ifF ht41 hs
 replace ht41 : a1 = true := (bNotF ht41)
 refine CW.skip ?_
 refine go hK39 ?_
 refine CW.seq fun K131 hK131 => ?_
 refine CW.region ?_
 refine WR.batch 2 [(2, pt g2 0), (4, pt g12 0), (5, pt g24 0), (6, .bool ((bAnd .u64 a0.a.Lo a0.b.Lo) != (0 : Int))), (30, pt g2 1)] (by kernel_rfl) ?_
 refine WR.load (dst := some 31) (t := 23) (o := 1) hb35 (by kernel_rfl) (.int .u64 a0.a.Hi) (by kernel_rfl) ?_
 refine WR.batch 2 [(2, pt g2 0), (4, pt g12 0), (5, pt g24 0), (6, .bool ((bAnd .u64 a0.a.Lo a0.b.Lo) != (0 : Int))), (33, .bool (decide (a0.a.Hi > (0 : Int))))] (by kernel_rfl) ?_
 refine WR.mergeW 10 [(2, pt g2 0), (4, pt g12 0), (5, pt g24 0), (6, .bool ((bAnd .u64 a0.a.Lo a0.b.Lo) != (0 : Int))), (38, .bool ((decide (a0.a.Hi > (0 : Int))) && (decide (a0.b.Hi > (0 : Int)))))] (fun w' => Chg [] w25 w') (fun Q' => ?_) ?_
 ·
  cases hg132 : decide (a0.a.Hi > (0 : Int))
  ·
   replace hg132 : ¬ (a0.a.Hi > (0 : Int)) := (of_decide_eq_false hg132)
   intro hM133
   refine WR.batch 5 [(2, pt g2 0), (4, pt g12 0), (5, pt g24 0), (6, .bool ((bAnd .u64 a0.a.Lo a0.b.Lo) != (0 : Int))), (38, .bool false)] (by kernel_rfl) ?_
   exact WR.keep [2, 4, 5, 6, 38] (by kernel_rfl) (hM133 _ (Chg.refl [] w25))
  ·
   replace hg132 : a0.a.Hi > (0 : Int) := (of_decide_eq_true hg132)
   intro hM133
   refine WR.batch 2 [(2, pt g2 0), (4, pt g12 0), (5, pt g24 0), (6, .bool ((bAnd .u64 a0.a.Lo a0.b.Lo) != (0 : Int))), (33, .bool true), (35, pt g2 3)] (by kernel_rfl) ?_
   refine WR.load (dst := some 36) (t := 23) (o := 3) hb35 (by kernel_rfl) (.int .u64 a0.b.Hi) (by kernel_rfl) ?_
   refine WR.batch 2 [(2, pt g2 0), (4, pt g12 0), (5, pt g24 0), (6, .bool ((bAnd .u64 a0.a.Lo a0.b.Lo) != (0 : Int))), (38, .bool (decide (a0.b.Hi > (0 : Int))))] (by kernel_rfl) ?_
   exact WR.keep [2, 4, 5, 6, 38] (by kernel_rfl) (hM133 _ (Chg.refl [] w25))
 intro w134 hc135
 have hz137 := hc135.size
 have hC136 := hC33.pure hc135
 have hb138 := hb35.pure hc135
 have hb139 := hb36.pure hc135
 have hb140 := hb27.pure hc135
 refine WR.batch 1 [(2, pt g2 0), (4, pt g12 0), (5, pt g24 0), (6, .bool ((bAnd .u64 a0.a.Lo a0.b.Lo) != (0 : Int))), (39, .bool ((decide (a0.a.Hi > (0 : Int))) && (decide (a0.b.Hi > (0 : Int)))))] (by kernel_rfl) ?_
 refine WR.mergeW 18 [(2, pt g2 0), (4, pt g12 0), (5, pt g24 0), (46, .bool (((decide (a0.a.Hi > (0 : Int))) && (decide (a0.b.Hi > (0 : Int)))) && ((!(span_work_both a0)) || ((bAnd .u64 a0.a.Lo a0.b.Lo) != (0 : Int)))))] (fun w' => Chg [] w134 w') (fun Q' => ?_) ?_
 ·
  cases hg141 : ((decide (a0.a.Hi > (0 : Int))) && (decide (a0.b.Hi > (0 : Int))))
  ·
   replace hg141 : (¬ (a0.a.Hi > (0 : Int))) ∨ (¬ (a0.b.Hi > (0 : Int))) := (orMap (bAndF hg141) (fun h => (of_decide_eq_false h)) (fun h => (of_decide_eq_false h)))
   intro hM142
   refine WR.batch 7 [(2, pt g2 0), (4, pt g12 0), (5, pt g24 0), (46, .bool false)] (by kernel_rfl) ?_
   exact WR.keep [2, 4, 5, 46] (by kernel_rfl) (hM142 _ (Chg.refl [] w134))
  ·
   replace hg141 : (a0.a.Hi > (0 : Int)) ∧ (a0.b.Hi > (0 : Int)) := ⟨(of_decide_eq_true (bAndT hg141).1), (of_decide_eq_true (bAndT hg141).2)⟩
   intro hM142
   refine WR.load (dst := some 40) (t := 79) (o := 0) hb138 (by kernel_rfl) (.agg #[.int .u64 a0.a.Lo, .int .u64 a0.a.Hi, .int .u64 a0.b.Lo, .int .u64 a0.b.Hi, .bool a0.narrow, .int .u64 a0.most, .int .u64 a0.size]) (by kernel_rfl) ?_
   refine WR.call (dst := some 41) (by kernel_rfl) (span_work_both_any a0 w134  ⟨(by omega), (by omega), (by omega), (by omega), (by omega), (by omega)⟩ ) ?_
   rintro _ w143 hc144 rfl
   have hz146 := hc144.size
   have hC145 := hC136.pure hc144
   have hb147 := hb138.pure hc144
   have hb148 := hb139.pure hc144
   have hb149 := hb140.pure hc144
   refine WR.batch 2 [(2, pt g2 0), (4, pt g12 0), (5, pt g24 0), (6, .bool ((bAnd .u64 a0.a.Lo a0.b.Lo) != (0 : Int))), (39, .bool true), (43, .bool (!(span_work_both a0)))] (by kernel_rfl) ?_
   refine WR.batch 2 [(2, pt g2 0), (4, pt g12 0), (5, pt g24 0), (39, .bool true), (45, .bool ((!(span_work_both a0)) || ((bAnd .u64 a0.a.Lo a0.b.Lo) != (0 : Int))))] (by generalize (!(span_work_both a0)) = b; cases b <;> kernel_rfl) ?_
   refine WR.batch 1 [(2, pt g2 0), (4, pt g12 0), (5, pt g24 0), (46, .bool ((!(span_work_both a0)) || ((bAnd .u64 a0.a.Lo a0.b.Lo) != (0 : Int))))] (by kernel_rfl) ?_
   exact WR.keep [2, 4, 5, 46] (by kernel_rfl) (hM142 _ ((Chg.refl [] w134).pure hc144))
 intro w150 hc151
 have hz153 := hc151.size
 have hC152 := hC136.pure hc151
 have hb154 := hb138.pure hc151
 have hb155 := hb139.pure hc151
 have hb156 := hb140.pure hc151
 rcases hx158 : span_must (((decide (a0.a.Hi > (0 : Int))) && (decide (a0.b.Hi > (0 : Int)))) && ((!(span_work_both a0)) || ((bAnd .u64 a0.a.Lo a0.b.Lo) != (0 : Int)))) with _ | x157
 ·
  have hs161 := optN hx158 hs130
  refine WR.callX (dst := some 47) (by kernel_rfl) (retP_no (g := fun r : Unit => (.tuple #[] : Value)) hx158 (span_must_any (((decide (a0.a.Hi > (0 : Int))) && (decide (a0.b.Hi > (0 : Int)))) && ((!(span_work_both a0)) || ((bAnd .u64 a0.a.Lo a0.b.Lo) != (0 : Int)))) w150  )) ?_
  intro w159 hc160
  have hz163 := hc160.size
  have hC162 := hC152.pure hc160
  have hb164 := hb154.pure hc160
  have hb165 := hb155.pure hc160
  have hb166 := hb156.pure hc160
  exact panicV (P := Try.prog) (fn := Try.f90) (retP_pan hs161 hC162)
 have hs167 := optS hx158 hs130
 refine WR.call (dst := some 47) (by kernel_rfl) (retP_yes (g := fun r : Unit => (.tuple #[] : Value)) hx158 (span_must_any (((decide (a0.a.Hi > (0 : Int))) && (decide (a0.b.Hi > (0 : Int)))) && ((!(span_work_both a0)) || ((bAnd .u64 a0.a.Lo a0.b.Lo) != (0 : Int)))) w150  )) ?_
 rintro _ w168 hc169 rfl
 have hz171 := hc169.size
 have hC170 := hC152.pure hc169
 have hb172 := hb154.pure hc169
 have hb173 := hb155.pure hc169
 have hb174 := hb156.pure hc169
 refine WR.fin (by kernel_rfl) ?_
 refine go hK131 ?_
 refine CW.seq fun K175 hK175 => ?_
 refine CW.keep [2, 4, 5] (F' := [(2, pt g2 0), (4, pt g12 0), (5, pt g24 0)]) (by kernel_rfl) ?_
 refine CW.regionG 17 [some (pt g2 0), some (pt g2 0), some (.int .u64 a0.a.Lo), some (.int .u64 (gMax a0.a.Lo (1 : Int))), some (pt g2 0), some (pt g2 1), some (.int .u64 a0.a.Hi), some (.agg #[.int .u64 (gMax a0.a.Lo (1 : Int)), .int .u64 a0.a.Hi]), some (pt g2 2), some (pt g2 2), some (.int .u64 a0.b.Lo), some (.int .u64 (gMax a0.b.Lo (1 : Int))), some (pt g2 2), some (pt g2 3), some (.int .u64 a0.b.Hi), some (.agg #[.int .u64 (gMax a0.b.Lo (1 : Int)), .int .u64 a0.b.Hi]), none] (fun u => [(48, pt g2 0), (49, pt g2 0), (50, .int .u64 a0.a.Lo), (51, .int .u64 (gMax a0.a.Lo (1 : Int))), (52, pt g2 0), (53, pt g2 1), (54, .int .u64 a0.a.Hi), (55, .agg #[.int .u64 (gMax a0.a.Lo (1 : Int)), .int .u64 a0.a.Hi]), (56, pt g2 2), (57, pt g2 2), (58, .int .u64 a0.b.Lo), (59, .int .u64 (gMax a0.b.Lo (1 : Int))), (60, pt g2 2), (61, pt g2 3), (62, .int .u64 a0.b.Hi), (63, .agg #[.int .u64 (gMax a0.b.Lo (1 : Int)), .int .u64 a0.b.Hi]), (2, pt g2 0), (4, pt g12 0), (5, pt g24 0)]) (fun _ => by kernel_rfl) (by kernel_rfl) [(16, g12)] (fun i w' => match i with | 0 => True | 1 => True | 2 => True | 3 => True | 4 => True | 5 => True | 6 => True | 7 => True | 8 => True | 9 => True | 10 => True | 11 => True | 12 => True | 13 => True | 14 => True | 15 => True | 16 => Blk w' g12 #[.int .u64 0, .int .u64 0] 25 | _ => True) (fun j => match j with | 0 => trivial | 1 => trivial | 2 => trivial | 3 => trivial | 4 => trivial | 5 => trivial | 6 => trivial | 7 => trivial | 8 => trivial | 9 => trivial | 10 => trivial | 11 => trivial | 12 => trivial | 13 => trivial | 14 => trivial | 15 => trivial | 16 => hb173.pure (Chg.drew w168) | j + 17 => trivial) ?_ [] [] (by kernel_rfl) (fun w' => Chg [g12] w168 w') (fun i v w' => match i with | 0 => True | 1 => True | 2 => True | 3 => True | 4 => True | 5 => True | 6 => True | 7 => True | 8 => True | 9 => True | 10 => True | 11 => True | 12 => True | 13 => True | 14 => True | 15 => True | 16 => Blk w' g12 #[.int .u64 (gMax a0.a.Lo (1 : Int)), .int .u64 a0.a.Hi] 25 | _ => True) (fun j x w hj h => absurd hj (by simp)) (by kernel_rfl) (by kernel_rfl) (by kernel_rfl) (by kernel_rfl) ((Chg.drew w168).weak (by simp)) (fun _ _ _ h h' => h.step h' (fun t ht => .inl (cL_sub t ht))) ?_ (obsG_batch 2 0 15 (fun _ _ => by kernel_rfl) (by kernel_rfl) ⟨?_, (obsG_batch 3 3 11 (fun _ _ => by kernel_rfl) (by kernel_rfl) ⟨?_, (obsG_batch 3 7 7 (fun _ _ => by kernel_rfl) (by kernel_rfl) ⟨?_, (obsG_batch 3 11 3 (fun _ _ => by kernel_rfl) (by kernel_rfl) ⟨?_, (obsG_batch 1 15 1 (fun _ _ => by kernel_rfl) (by kernel_rfl) ⟨?_, trivial⟩)⟩)⟩)⟩)⟩) ?_
 ·
  intro i j w1 w2 hij h hc
  match j, hij, h with
  | 0, hij, h => exact trivial
  | 1, hij, h => exact trivial
  | 2, hij, h => exact trivial
  | 3, hij, h => exact trivial
  | 4, hij, h => exact trivial
  | 5, hij, h => exact trivial
  | 6, hij, h => exact trivial
  | 7, hij, h => exact trivial
  | 8, hij, h => exact trivial
  | 9, hij, h => exact trivial
  | 10, hij, h => exact trivial
  | 11, hij, h => exact trivial
  | 12, hij, h => exact trivial
  | 13, hij, h => exact trivial
  | 14, hij, h => exact trivial
  | 15, hij, h => exact trivial
  | 16, hij, h => exact h.chg hc (cL_not (by intro p hp e; simp only [List.mem_cons, List.not_mem_nil, or_false] at hp; rcases hp with rfl <;> (simp only at e ⊢; omega)))
  | n + 17, _, _ => trivial
 ·
  intro i j v w1 w2 hij h hc
  match j, hij, h with
  | 0, _, _ => trivial
  | 1, _, _ => trivial
  | 2, _, _ => trivial
  | 3, _, _ => trivial
  | 4, _, _ => trivial
  | 5, _, _ => trivial
  | 6, _, _ => trivial
  | 7, _, _ => trivial
  | 8, _, _ => trivial
  | 9, _, _ => trivial
  | 10, _, _ => trivial
  | 11, _, _ => trivial
  | 12, _, _ => trivial
  | 13, _, _ => trivial
  | 14, _, _ => trivial
  | 15, _, _ => trivial
  | 16, hij, h => exact h.chg hc (cL_not (by intro p hp e; simp only [List.mem_cons, List.not_mem_nil, or_false] at hp; rcases hp with rfl <;> (simp only at e ⊢; omega)))
  | n + 17, _, _ => trivial
 ·
  intro u176 w177 hW178 hPr181 hp179 hal180
  have hz183 := hW178.size
  have hC182 := hC170.step1 hW178 (by omega)
  have hb184 := hb172.chg1 hW178 (by omega)
  have hb185 := hb174.chg1 hW178 (by omega)
  have hb186 : Blk w177 g12 #[.int .u64 0, .int .u64 0] 25 := hPr181 16 (.inr (.one (by kernel_rfl)))
  refine WR.load (dst := some 50) (t := 23) (o := 0) hb184 (by kernel_rfl) (.int .u64 a0.a.Lo) (by kernel_rfl) ?_
  refine WR.fin (by kernel_rfl) ?_
  exact fun _ ha => ⟨Chg.refl _ _, _, ha, ⟨⟨fun h => absurd h (by decide), alNone (by decide)⟩, rfl⟩⟩
 ·
  intro u187 w188 hW189 hPr192 hp190 hal191
  have hz194 := hW189.size
  have hC193 := hC170.step1 hW189 (by omega)
  have hb195 := hb172.chg1 hW189 (by omega)
  have hb196 := hb174.chg1 hW189 (by omega)
  have hb197 : Blk w188 g12 #[.int .u64 0, .int .u64 0] 25 := hPr192 16 (.inr (.one (by kernel_rfl)))
  refine WR.load (dst := some 54) (t := 23) (o := 1) hb195 (by kernel_rfl) (.int .u64 a0.a.Hi) (by kernel_rfl) ?_
  refine WR.fin (by kernel_rfl) ?_
  exact fun _ ha => ⟨Chg.refl _ _, _, ha, ⟨⟨fun h => absurd h (by decide), alNone (by decide)⟩, rfl⟩⟩
 ·
  intro u198 w199 hW200 _ hp201 hal202
  have hz205 := hW200.size
  have hC204 := hC170.step1 hW200 (by omega)
  have hb206 := hb172.chg1 hW200 (by omega)
  have hb207 := hb174.chg1 hW200 (by omega)
  refine WR.load (dst := some 58) (t := 23) (o := 2) hb206 (by kernel_rfl) (.int .u64 a0.b.Lo) (by kernel_rfl) ?_
  refine WR.fin (by kernel_rfl) ?_
  exact fun _ ha => ⟨Chg.refl _ _, _, ha, ⟨⟨fun h => absurd h (by decide), alNone (by decide)⟩, rfl⟩⟩
 ·
  intro u208 w209 hW210 _ hp211 hal212
  have hz215 := hW210.size
  have hC214 := hC170.step1 hW210 (by omega)
  have hb216 := hb172.chg1 hW210 (by omega)
  have hb217 := hb174.chg1 hW210 (by omega)
  refine WR.load (dst := some 62) (t := 23) (o := 3) hb216 (by kernel_rfl) (.int .u64 a0.b.Hi) (by kernel_rfl) ?_
  refine WR.fin (by kernel_rfl) ?_
  exact fun _ ha => ⟨Chg.refl _ _, _, ha, ⟨⟨fun h => absurd h (by decide), alNone (by decide)⟩, rfl⟩⟩
 ·
  intro u218 w219 hW220 hPr223 hp221 hal222
  have hz225 := hW220.size
  have hC224 := hC170.step1 hW220 (by omega)
  have hb226 := hb172.chg1 hW220 (by omega)
  have hb227 := hb174.chg1 hW220 (by omega)
  have hb228 : Blk w219 g12 #[.int .u64 0, .int .u64 0] 25 := hPr223 16 (.inl rfl)
  refine WR.store (t := 25) (o := 0) (v := .agg #[.int .u64 (gMax a0.a.Lo (1 : Int)), .int .u64 a0.a.Hi]) hb228 (by kernel_rfl) #[.int .u64 (gMax a0.a.Lo (1 : Int)), .int .u64 a0.a.Hi] (by kernel_rfl) ?_
  intro w229 hb230 hc231
  have hz233 := hc231.size
  have hC232 := hC224.step1 hc231 (by omega)
  have hb234 := hb226.chg1 hc231 (by omega)
  have hb235 := hb227.chg1 hc231 (by omega)
  refine WR.fin (by kernel_rfl) ?_
  exact fun _ ha => ⟨hc231, undef, ha, ⟨⟨fun h => absurd h (by decide), alNone (by decide)⟩, hb230⟩⟩
 intro u236 w237 hW238 hr239 _ _
 have hz243 := hW238.size
 have hC242 := hC170.step1 hW238 (by omega)
 have hb244 := hb172.chg1 hW238 (by omega)
 have hb245 := hb174.chg1 hW238 (by omega)
 have hp246 : Blk w237 g12 #[.int .u64 (gMax a0.a.Lo (1 : Int)), .int .u64 a0.a.Hi] 25 := hr239 16 (by omega) (by kernel_rfl)
 refine WR.keep [4, 5, 63] (F' := [(4, pt g12 0), (5, pt g24 0), (63, .agg #[.int .u64 (gMax a0.b.Lo (1 : Int)), .int .u64 a0.b.Hi])]) (by kernel_rfl) ?_
 refine WR.store (t := 25) (o := 0) (v := .agg #[.int .u64 (gMax a0.b.Lo (1 : Int)), .int .u64 a0.b.Hi]) hb245 (by kernel_rfl) #[.int .u64 (gMax a0.b.Lo (1 : Int)), .int .u64 a0.b.Hi] (by kernel_rfl) ?_
 intro w247 hb248 hc249
 have hz251 := hc249.size
 have hC250 := hC242.step1 hc249 (by omega)
 have hb252 := hb244.chg1 hc249 (by omega)
 have hb253 := hp246.chg1 hc249 (by omega)
 refine WR.fin (by kernel_rfl) ?_
 refine go hK175 ?_
 refine CW.ret ?_
 exact retC [.agg #[.int .u64 (gMax a0.a.Lo (1 : Int)), .int .u64 a0.a.Hi], .agg #[.int .u64 (gMax a0.b.Lo (1 : Int)), .int .u64 a0.b.Hi]] (.tuple #[.agg #[.int .u64 (gMax a0.a.Lo (1 : Int)), .int .u64 a0.a.Hi], .agg #[.int .u64 (gMax a0.b.Lo (1 : Int)), .int .u64 a0.b.Hi]]) rfl ⟨resCell hb253 rfl (by kernel_rfl), resCell hb248 rfl (by kernel_rfl), trivial⟩ (retP_ret (g := (fun r : (TSpan × TSpan) => (.tuple #[.agg #[.int .u64 r.1.Lo, .int .u64 r.1.Hi], .agg #[.int .u64 r.2.Lo, .int .u64 r.2.Hi]] : Value))) hs167 rfl hC250)
end Go.V
