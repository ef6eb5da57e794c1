import Derived.Test.YtjiagljaipadmaaProg
import Derived.Test.YtjiagljaipadmaaLs
namespace Go.V
open Go.RowKit Go.Proofs
def law12_KindOrders (a0 : TKnown) (a1 : TKnown) (a2 : TKnown) (a3 : Int) (a4 : Int) (a5 : Int)  : Bool := (letF (law12_awake) fun x40 => (if (!x40) then false else (letF (kind_Right a0) fun x56 => (letF (kind_Within a0 a0) fun x59 => (if (x56 != x59) then false else (letF (kind_Within a0 a1) fun x75 => (if (x75 && (((((kind_Holds a0 a3 a4 a5) && (decide (a5 ≥ (0 : Int)))) && (decide (a5 ≤ (65535 : Int)))) && (!(kind_Holds a1 a3 a4 a5))) || ((kind_Within a1 a2) && (!(kind_Within a0 a2))))) then false else (letF (kind_Right a0) fun x155 => (if ((!x155) || (!(kind_Right a1))) then (letF (kind_Join a0 a1) fun x184 => ((x184.Kind == (0 : Int)) && ((x184.In.Lo == (0 : Int)) && (x184.In.Hi == (0 : Int))))) else (letF (kind_Join a0 a1) fun x198 => (letF (kind_Right x198) fun x235 => (((x235 && (kind_Within a0 x198)) && (kind_Within a1 x198)) && ((x198.Kind == (kind_Join a1 a0).Kind) && ((x198.In.Lo == (kind_Join a1 a0).In.Lo) && (x198.In.Hi == (kind_Join a1 a0).In.Hi)))))))))))))))

set_option maxHeartbeats 4000000 in
theorem law12_KindOrders_any (a0 : TKnown) (a1 : TKnown) (a2 : TKnown) (a3 : Int) (a4 : Int) (a5 : Int)   (w : World)  (_h_a0 : (0 ≤ a0.Kind ∧ a0.Kind ≤ 255) ∧ (0 ≤ a0.In.Lo ∧ a0.In.Lo ≤ 18446744073709551615) ∧ (0 ≤ a0.In.Hi ∧ a0.In.Hi ≤ 18446744073709551615)) (_h_a1 : (0 ≤ a1.Kind ∧ a1.Kind ≤ 255) ∧ (0 ≤ a1.In.Lo ∧ a1.In.Lo ≤ 18446744073709551615) ∧ (0 ≤ a1.In.Hi ∧ a1.In.Hi ≤ 18446744073709551615)) (_h_a2 : (0 ≤ a2.Kind ∧ a2.Kind ≤ 255) ∧ (0 ≤ a2.In.Lo ∧ a2.In.Lo ≤ 18446744073709551615) ∧ (0 ≤ a2.In.Hi ∧ a2.In.Hi ≤ 18446744073709551615)) (_h_a3 : (0 ≤ a3 ∧ a3 ≤ 255)) (_h_a4 : (0 ≤ a4 ∧ a4 ≤ 18446744073709551615)) (_h_a5 : (-9223372036854775808 ≤ a5 ∧ a5 ≤ 9223372036854775807))  : Calls Try.prog 11 #[.agg #[.int .u8 a0.Kind, .int .u64 a0.In.Lo, .int .u64 a0.In.Hi], .agg #[.int .u8 a1.Kind, .int .u64 a1.In.Lo, .int .u64 a1.In.Hi], .agg #[.int .u8 a2.Kind, .int .u64 a2.In.Lo, .int .u64 a2.In.Hi], .int .u8 a3, .int .u64 a4, .int .i64 a5] w (RetV w (.bool (law12_KindOrders a0 a1 a2 a3 a4 a5))) := by
 have hs := law12_KindOrders.eq_1 a0 a1 a2 a3 a4 a5
 refine calls_of_CW Try.func11 rfl (n := 94) Try.ntmps11 (by kernel_rfl) [0, 1, 2, 3, 4, 5] (F := [(0, .agg #[.int .u8 a0.Kind, .int .u64 a0.In.Lo, .int .u64 a0.In.Hi]), (1, .agg #[.int .u8 a1.Kind, .int .u64 a1.In.Lo, .int .u64 a1.In.Hi]), (2, .agg #[.int .u8 a2.Kind, .int .u64 a2.In.Lo, .int .u64 a2.In.Hi]), (3, .int .u8 a3), (4, .int .u64 a4), (5, .int .i64 a5)]) (by kernel_rfl) ?_
 refine CW.seq fun K1 hK1 => ?_
 refine CW.region ?_
 refine WR.box (dst := some 6) (e := 56) (v := .agg #[.int .u8 a0.Kind, .int .u64 a0.In.Lo, .int .u64 a0.In.Hi]) (by kernel_rfl) #[.int .u8 a0.Kind, .int .u64 a0.In.Lo, .int .u64 a0.In.Hi] (by kernel_rfl) ?_
 intro g2 w3 hN4
 have hf6 : w.heap.size ≤ g2 := hN4.fresh
 have hfr8 := hN4.fresh
 have hc7 := hN4.chg
 have hz10 := hc7.size
 have hC9 := (Chg.refl [] w).pure hc7
 have hb5 := hN4.blk
 have hg11 := hb5.lt
 refine WR.box (dst := some 7) (e := 56) (v := .agg #[.int .u8 a1.Kind, .int .u64 a1.In.Lo, .int .u64 a1.In.Hi]) (by kernel_rfl) #[.int .u8 a1.Kind, .int .u64 a1.In.Lo, .int .u64 a1.In.Hi] (by kernel_rfl) ?_
 intro g12 w13 hN14
 have hl17 : g2 < g12 := Nat.lt_of_lt_of_le hb5.lt hN14.fresh
 have hf16 : w.heap.size ≤ g12 := Nat.le_trans hC9.size hN14.fresh
 have hfr19 := hN14.fresh
 have hc18 := hN14.chg
 have hz21 := hc18.size
 have hC20 := hC9.pure hc18
 have hb22 := hb5.pure hc18
 have hb15 := hN14.blk
 have hg23 := hb15.lt
 refine WR.box (dst := some 8) (e := 56) (v := .agg #[.int .u8 a2.Kind, .int .u64 a2.In.Lo, .int .u64 a2.In.Hi]) (by kernel_rfl) #[.int .u8 a2.Kind, .int .u64 a2.In.Lo, .int .u64 a2.In.Hi] (by kernel_rfl) ?_
 intro g24 w25 hN26
 have hl29 : g2 < g24 := Nat.lt_of_lt_of_le hb22.lt hN26.fresh
 have hl30 : g12 < g24 := Nat.lt_of_lt_of_le hb15.lt hN26.fresh
 have hf28 : w.heap.size ≤ g24 := Nat.le_trans hC20.size hN26.fresh
 have hfr32 := hN26.fresh
 have hc31 := hN26.chg
 have hz34 := hc31.size
 have hC33 := hC20.pure hc31
 have hb35 := hb22.pure hc31
 have hb36 := hb15.pure hc31
 have hb27 := hN26.blk
 have hg37 := hb27.lt
 refine WR.batch 1 [(3, .int .u8 a3), (4, .int .u64 a4), (5, .int .i64 a5), (6, pt g2 0), (7, pt g12 0), (8, pt g24 0)] (by kernel_rfl) ?_
 refine WR.fin (by kernel_rfl) ?_
 refine go hK1 ?_
 refine CW.seq fun K38 hK38 => ?_
 refine CW.seq fun K39 hK39 => ?_
 refine CW.region ?_
 obtain ⟨x40, hx41⟩ : ∃ x, law12_awake = x := ⟨_, rfl⟩
 have hs42 := letS hx41 hs
 refine WR.call (dst := some 14) (by kernel_rfl) (retE (g := fun r : Bool => (.bool r : Value)) hx41 (law12_awake_any  w25  )) ?_
 rintro _ w43 hc44 rfl
 have hz46 := hc44.size
 have hC45 := hC33.pure hc44
 have hb47 := hb35.pure hc44
 have hb48 := hb36.pure hc44
 have hb49 := hb27.pure hc44
 refine WR.batch 1 [(3, .int .u8 a3), (4, .int .u64 a4), (5, .int .i64 a5), (6, pt g2 0), (7, pt g12 0), (8, pt g24 0), (15, .bool (!x40))] (by kernel_rfl) ?_
 refine WR.fin (by kernel_rfl) ?_
 refine go hK39 ?_
 refine CW.cond ((!x40)) (by kernel_rfl) (fun ht50 => ?_) (fun ht50 => ?_)
 ·
  have hs51 := ifT ht50 hs42
  replace ht50 : x40 = false := (bNotT ht50)
  refine CW.seq fun K52 hK52 => ?_
  refine CW.region ?_
  refine WR.batch 1 [(12, .bool false)] (by kernel_rfl) ?_
  refine WR.fin (by kernel_rfl) ?_
  refine go hK52 ?_
  refine CW.ret ?_
  exact retV (.bool false) (by kernel_rfl) (⟨hC45, (congrArg (fun r : Bool => (.bool r : Value)) hs51).symm⟩)
 have hs53 := ifF ht50 hs42
 replace ht50 : x40 = true := (bNotF ht50)
 refine CW.skip ?_
 refine go hK38 ?_
 refine CW.seq fun K54 hK54 => ?_
 refine CW.seq fun K55 hK55 => ?_
 refine CW.regionQ (by kernel_rfl) (by kernel_rfl) ?_
 refine WQ.load (dst := some 16) (t := 56) (o := 0) (fun _ hq => hb47.pure hq) (by kernel_rfl) (.agg #[.int .u8 a0.Kind, .int .u64 a0.In.Lo, .int .u64 a0.In.Hi]) (by kernel_rfl) ?_
 obtain ⟨x56, hx57⟩ : ∃ x, kind_Right a0 = x := ⟨_, rfl⟩
 have hs58 := letS hx57 hs53
 refine WQ.call (dst := some 17) (.bool x56) (fun _ => by kernel_rfl) (fun _ _ h h' => h.pure h') (fun wq hq => retE (g := fun r : Bool => (.bool r : Value)) hx57 (kind_Right_any a0 wq  ⟨(by omega), (by omega), (by omega)⟩ )) ?_
 refine WQ.load (dst := some 18) (t := 56) (o := 0) (fun _ hq => hb47.pure hq) (by kernel_rfl) (.agg #[.int .u8 a0.Kind, .int .u64 a0.In.Lo, .int .u64 a0.In.Hi]) (by kernel_rfl) ?_
 refine WQ.load (dst := some 19) (t := 56) (o := 0) (fun _ hq => hb47.pure hq) (by kernel_rfl) (.agg #[.int .u8 a0.Kind, .int .u64 a0.In.Lo, .int .u64 a0.In.Hi]) (by kernel_rfl) ?_
 obtain ⟨x59, hx60⟩ : ∃ x, kind_Within a0 a0 = x := ⟨_, rfl⟩
 have hs61 := letS hx60 hs58
 refine WQ.call (dst := some 20) (.bool x59) (fun _ => by kernel_rfl) (fun _ _ h h' => h.pure h') (fun wq hq => retE (g := fun r : Bool => (.bool r : Value)) hx60 (kind_Within_any a0 a0 wq  ⟨(by omega), (by omega), (by omega)⟩ ⟨(by omega), (by omega), (by omega)⟩ )) ?_
 refine WQ.val (dst := some 21) (.bool (x56 != x59)) (fun _ => by kernel_rfl) ?_
 refine WQ.fin (by kernel_rfl) ?_
 intro w62 hc63
 have hz65 := hc63.size
 have hC64 := hC45.pure hc63
 have hb66 := hb47.pure hc63
 have hb67 := hb48.pure hc63
 have hb68 := hb49.pure hc63
 refine go hK55 ?_
 refine CW.cond ((x56 != x59)) (by kernel_rfl) (fun ht69 => ?_) (fun ht69 => ?_)
 ·
  have hs70 := ifT ht69 hs61
  replace ht69 : x56 ≠ x59 := (bNeT ht69)
  refine CW.seq fun K71 hK71 => ?_
  refine CW.region ?_
  refine WR.batch 1 [(12, .bool false)] (by kernel_rfl) ?_
  refine WR.fin (by kernel_rfl) ?_
  refine go hK71 ?_
  refine CW.ret ?_
  exact retV (.bool false) (by kernel_rfl) (⟨hC64, (congrArg (fun r : Bool => (.bool r : Value)) hs70).symm⟩)
 have hs72 := ifF ht69 hs61
 replace ht69 : x56 = x59 := (bNeF ht69)
 refine CW.skip ?_
 refine go hK54 ?_
 refine CW.seq fun K73 hK73 => ?_
 refine CW.seq fun K74 hK74 => ?_
 refine CW.region ?_
 refine WR.load (dst := some 22) (t := 56) (o := 0) hb66 (by kernel_rfl) (.agg #[.int .u8 a0.Kind, .int .u64 a0.In.Lo, .int .u64 a0.In.Hi]) (by kernel_rfl) ?_
 refine WR.load (dst := some 23) (t := 56) (o := 0) hb67 (by kernel_rfl) (.agg #[.int .u8 a1.Kind, .int .u64 a1.In.Lo, .int .u64 a1.In.Hi]) (by kernel_rfl) ?_
 obtain ⟨x75, hx76⟩ : ∃ x, kind_Within a0 a1 = x := ⟨_, rfl⟩
 have hs77 := letS hx76 hs72
 refine WR.call (dst := some 24) (by kernel_rfl) (retE (g := fun r : Bool => (.bool r : Value)) hx76 (kind_Within_any a0 a1 w62  ⟨(by omega), (by omega), (by omega)⟩ ⟨(by omega), (by omega), (by omega)⟩ )) ?_
 rintro _ w78 hc79 rfl
 have hz81 := hc79.size
 have hC80 := hC64.pure hc79
 have hb82 := hb66.pure hc79
 have hb83 := hb67.pure hc79
 have hb84 := hb68.pure hc79
 refine WR.batch 1 [(3, .int .u8 a3), (4, .int .u64 a4), (5, .int .i64 a5), (6, pt g2 0), (7, pt g12 0), (8, pt g24 0), (25, .bool x75)] (by kernel_rfl) ?_
 refine WR.mergeW 37 [(6, pt g2 0), (7, pt g12 0), (58, .bool (x75 && (((((kind_Holds a0 a3 a4 a5) && (decide (a5 ≥ (0 : Int)))) && (decide (a5 ≤ (65535 : Int)))) && (!(kind_Holds a1 a3 a4 a5))) || ((kind_Within a1 a2) && (!(kind_Within a0 a2))))))] (fun w' => Chg [] w78 w') (fun Q' => ?_) ?_
 ·
  cases hg85 : x75
  ·
   intro hM86
   refine WR.batch 33 [(6, pt g2 0), (7, pt g12 0), (58, .bool false)] (by kernel_rfl) ?_
   exact WR.keep [6, 7, 58] (by kernel_rfl) (hM86 _ (Chg.refl [] w78))
  ·
   intro hM86
   refine WR.load (dst := some 26) (t := 56) (o := 0) hb82 (by kernel_rfl) (.agg #[.int .u8 a0.Kind, .int .u64 a0.In.Lo, .int .u64 a0.In.Hi]) (by kernel_rfl) ?_
   refine WR.batch 3 [(3, .int .u8 a3), (4, .int .u64 a4), (5, .int .i64 a5), (6, pt g2 0), (7, pt g12 0), (8, pt g24 0), (25, .bool true), (26, .agg #[.int .u8 a0.Kind, .int .u64 a0.In.Lo, .int .u64 a0.In.Hi]), (27, .int .u8 a3), (28, .int .u64 a4), (29, .int .i64 a5)] (by kernel_rfl) ?_
   refine WR.call (dst := some 30) (by kernel_rfl) (kind_Holds_any a0 a3 a4 a5 w78  ⟨(by omega), (by omega), (by omega)⟩ (by omega) (by omega) (by omega) ) ?_
   rintro _ w87 hc88 rfl
   have hz90 := hc88.size
   have hC89 := hC80.pure hc88
   have hb91 := hb82.pure hc88
   have hb92 := hb83.pure hc88
   have hb93 := hb84.pure hc88
   refine WR.batch 1 [(3, .int .u8 a3), (4, .int .u64 a4), (5, .int .i64 a5), (6, pt g2 0), (7, pt g12 0), (8, pt g24 0), (25, .bool true), (31, .bool (kind_Holds a0 a3 a4 a5))] (by kernel_rfl) ?_
   refine WR.batch 3 [(3, .int .u8 a3), (4, .int .u64 a4), (5, .int .i64 a5), (6, pt g2 0), (7, pt g12 0), (8, pt g24 0), (25, .bool true), (34, .bool ((kind_Holds a0 a3 a4 a5) && (decide (a5 ≥ (0 : Int)))))] (by generalize (kind_Holds a0 a3 a4 a5) = b; cases b <;> kernel_rfl) ?_
   refine WR.batch 1 [(3, .int .u8 a3), (4, .int .u64 a4), (5, .int .i64 a5), (6, pt g2 0), (7, pt g12 0), (8, pt g24 0), (25, .bool true), (35, .bool ((kind_Holds a0 a3 a4 a5) && (decide (a5 ≥ (0 : Int)))))] (by kernel_rfl) ?_
   refine WR.batch 3 [(3, .int .u8 a3), (4, .int .u64 a4), (5, .int .i64 a5), (6, pt g2 0), (7, pt g12 0), (8, pt g24 0), (25, .bool true), (38, .bool (((kind_Holds a0 a3 a4 a5) && (decide (a5 ≥ (0 : Int)))) && (decide (a5 ≤ (65535 : Int)))))] (by generalize ((kind_Holds a0 a3 a4 a5) && (decide (a5 ≥ (0 : Int)))) = b; cases b <;> kernel_rfl) ?_
   refine WR.batch 1 [(3, .int .u8 a3), (4, .int .u64 a4), (5, .int .i64 a5), (6, pt g2 0), (7, pt g12 0), (8, pt g24 0), (25, .bool true), (39, .bool (((kind_Holds a0 a3 a4 a5) && (decide (a5 ≥ (0 : Int)))) && (decide (a5 ≤ (65535 : Int)))))] (by kernel_rfl) ?_
   refine WR.mergeW 25 [(6, pt g2 0), (7, pt g12 0), (8, pt g24 0), (25, .bool true), (46, .bool ((((kind_Holds a0 a3 a4 a5) && (decide (a5 ≥ (0 : Int)))) && (decide (a5 ≤ (65535 : Int)))) && (!(kind_Holds a1 a3 a4 a5))))] (fun w' => Chg [] w87 w') (fun Q' => ?_) ?_
   ·
    cases hg94 : (((kind_Holds a0 a3 a4 a5) && (decide (a5 ≥ (0 : Int)))) && (decide (a5 ≤ (65535 : Int))))
    ·
     replace hg94 : (((kind_Holds a0 a3 a4 a5) = false) ∨ (¬ (a5 ≥ (0 : Int)))) ∨ (¬ (a5 ≤ (65535 : Int))) := (orMap (bAndF hg94) (fun h => (orMap (bAndF h) (fun h => h) (fun h => (of_decide_eq_false h)))) (fun h => (of_decide_eq_false h)))
     intro hM95
     refine WR.batch 7 [(6, pt g2 0), (7, pt g12 0), (8, pt g24 0), (25, .bool true), (46, .bool false)] (by kernel_rfl) ?_
     exact WR.keep [6, 7, 8, 25, 46] (by kernel_rfl) (hM95 _ (Chg.refl [] w87))
    ·
     replace hg94 : (((kind_Holds a0 a3 a4 a5) = true) ∧ (a5 ≥ (0 : Int))) ∧ (a5 ≤ (65535 : Int)) := ⟨⟨(bAndT (bAndT hg94).1).1, (of_decide_eq_true (bAndT (bAndT hg94).1).2)⟩, (of_decide_eq_true (bAndT hg94).2)⟩
     intro hM95
     refine WR.load (dst := some 40) (t := 56) (o := 0) hb92 (by kernel_rfl) (.agg #[.int .u8 a1.Kind, .int .u64 a1.In.Lo, .int .u64 a1.In.Hi]) (by kernel_rfl) ?_
     refine WR.batch 3 [(6, pt g2 0), (7, pt g12 0), (8, pt g24 0), (25, .bool true), (39, .bool true), (40, .agg #[.int .u8 a1.Kind, .int .u64 a1.In.Lo, .int .u64 a1.In.Hi]), (41, .int .u8 a3), (42, .int .u64 a4), (43, .int .i64 a5)] (by kernel_rfl) ?_
     refine WR.call (dst := some 44) (by kernel_rfl) (kind_Holds_any a1 a3 a4 a5 w87  ⟨(by omega), (by omega), (by omega)⟩ (by omega) (by omega) (by omega) ) ?_
     rintro _ w96 hc97 rfl
     have hz99 := hc97.size
     have hC98 := hC89.pure hc97
     have hb100 := hb91.pure hc97
     have hb101 := hb92.pure hc97
     have hb102 := hb93.pure hc97
     refine WR.batch 2 [(6, pt g2 0), (7, pt g12 0), (8, pt g24 0), (25, .bool true), (46, .bool (!(kind_Holds a1 a3 a4 a5)))] (by kernel_rfl) ?_
     exact WR.keep [6, 7, 8, 25, 46] (by kernel_rfl) (hM95 _ ((Chg.refl [] w87).pure hc97))
   intro w103 hc104
   have hz106 := hc104.size
   have hC105 := hC89.pure hc104
   have hb107 := hb91.pure hc104
   have hb108 := hb92.pure hc104
   have hb109 := hb93.pure hc104
   refine WR.batch 1 [(6, pt g2 0), (7, pt g12 0), (8, pt g24 0), (25, .bool true), (47, .bool ((((kind_Holds a0 a3 a4 a5) && (decide (a5 ≥ (0 : Int)))) && (decide (a5 ≤ (65535 : Int)))) && (!(kind_Holds a1 a3 a4 a5))))] (by kernel_rfl) ?_
   refine WR.mergeW 36 [(6, pt g2 0), (7, pt g12 0), (25, .bool true), (57, .bool (((((kind_Holds a0 a3 a4 a5) && (decide (a5 ≥ (0 : Int)))) && (decide (a5 ≤ (65535 : Int)))) && (!(kind_Holds a1 a3 a4 a5))) || ((kind_Within a1 a2) && (!(kind_Within a0 a2)))))] (fun w' => Chg [] w103 w') (fun Q' => ?_) ?_
   ·
    cases hg110 : ((((kind_Holds a0 a3 a4 a5) && (decide (a5 ≥ (0 : Int)))) && (decide (a5 ≤ (65535 : Int)))) && (!(kind_Holds a1 a3 a4 a5)))
    ·
     replace hg110 : ((((kind_Holds a0 a3 a4 a5) = false) ∨ (¬ (a5 ≥ (0 : Int)))) ∨ (¬ (a5 ≤ (65535 : Int)))) ∨ ((kind_Holds a1 a3 a4 a5) = true) := (orMap (bAndF hg110) (fun h => (orMap (bAndF h) (fun h => (orMap (bAndF h) (fun h => h) (fun h => (of_decide_eq_false h)))) (fun h => (of_decide_eq_false h)))) (fun h => (bNotF h)))
     intro hM111
     refine WR.load (dst := some 48) (t := 56) (o := 0) hb108 (by kernel_rfl) (.agg #[.int .u8 a1.Kind, .int .u64 a1.In.Lo, .int .u64 a1.In.Hi]) (by kernel_rfl) ?_
     refine WR.load (dst := some 49) (t := 56) (o := 0) hb109 (by kernel_rfl) (.agg #[.int .u8 a2.Kind, .int .u64 a2.In.Lo, .int .u64 a2.In.Hi]) (by kernel_rfl) ?_
     refine WR.call (dst := some 50) (by kernel_rfl) (kind_Within_any a1 a2 w103  ⟨(by omega), (by omega), (by omega)⟩ ⟨(by omega), (by omega), (by omega)⟩ ) ?_
     rintro _ w112 hc113 rfl
     have hz115 := hc113.size
     have hC114 := hC105.pure hc113
     have hb116 := hb107.pure hc113
     have hb117 := hb108.pure hc113
     have hb118 := hb109.pure hc113
     refine WR.batch 1 [(6, pt g2 0), (7, pt g12 0), (8, pt g24 0), (25, .bool true), (47, .bool false), (51, .bool (kind_Within a1 a2))] (by kernel_rfl) ?_
     refine WR.mergeW 35 [(6, pt g2 0), (7, pt g12 0), (25, .bool true), (47, .bool false), (56, .bool ((kind_Within a1 a2) && (!(kind_Within a0 a2))))] (fun w' => Chg [] w112 w') (fun Q' => ?_) ?_
     ·
      cases hg119 : (kind_Within a1 a2)
      ·
       intro hM120
       refine WR.batch 5 [(6, pt g2 0), (7, pt g12 0), (25, .bool true), (47, .bool false), (56, .bool false)] (by kernel_rfl) ?_
       exact WR.keep [6, 7, 25, 47, 56] (by kernel_rfl) (hM120 _ (Chg.refl [] w112))
      ·
       intro hM120
       refine WR.load (dst := some 52) (t := 56) (o := 0) hb116 (by kernel_rfl) (.agg #[.int .u8 a0.Kind, .int .u64 a0.In.Lo, .int .u64 a0.In.Hi]) (by kernel_rfl) ?_
       refine WR.load (dst := some 53) (t := 56) (o := 0) hb118 (by kernel_rfl) (.agg #[.int .u8 a2.Kind, .int .u64 a2.In.Lo, .int .u64 a2.In.Hi]) (by kernel_rfl) ?_
       refine WR.call (dst := some 54) (by kernel_rfl) (kind_Within_any a0 a2 w112  ⟨(by omega), (by omega), (by omega)⟩ ⟨(by omega), (by omega), (by omega)⟩ ) ?_
       rintro _ w121 hc122 rfl
       have hz124 := hc122.size
       have hC123 := hC114.pure hc122
       have hb125 := hb116.pure hc122
       have hb126 := hb117.pure hc122
       have hb127 := hb118.pure hc122
       refine WR.batch 2 [(6, pt g2 0), (7, pt g12 0), (25, .bool true), (47, .bool false), (56, .bool (!(kind_Within a0 a2)))] (by kernel_rfl) ?_
       exact WR.keep [6, 7, 25, 47, 56] (by kernel_rfl) (hM120 _ ((Chg.refl [] w112).pure hc122))
     intro w128 hc129
     have hz131 := hc129.size
     have hC130 := hC114.pure hc129
     have hb132 := hb116.pure hc129
     have hb133 := hb117.pure hc129
     have hb134 := hb118.pure hc129
     refine WR.batch 1 [(6, pt g2 0), (7, pt g12 0), (25, .bool true), (57, .bool ((kind_Within a1 a2) && (!(kind_Within a0 a2))))] (by kernel_rfl) ?_
     exact WR.keep [6, 7, 25, 57] (by kernel_rfl) (hM111 _ (((Chg.refl [] w103).pure hc113).pure hc129))
    ·
     replace hg110 : ((((kind_Holds a0 a3 a4 a5) = true) ∧ (a5 ≥ (0 : Int))) ∧ (a5 ≤ (65535 : Int))) ∧ ((kind_Holds a1 a3 a4 a5) = false) := ⟨⟨⟨(bAndT (bAndT (bAndT hg110).1).1).1, (of_decide_eq_true (bAndT (bAndT (bAndT hg110).1).1).2)⟩, (of_decide_eq_true (bAndT (bAndT hg110).1).2)⟩, (bNotT (bAndT hg110).2)⟩
     intro hM111
     refine WR.batch 10 [(6, pt g2 0), (7, pt g12 0), (25, .bool true), (57, .bool true)] (by kernel_rfl) ?_
     exact WR.keep [6, 7, 25, 57] (by kernel_rfl) (hM111 _ (Chg.refl [] w103))
   intro w135 hc136
   have hz138 := hc136.size
   have hC137 := hC105.pure hc136
   have hb139 := hb107.pure hc136
   have hb140 := hb108.pure hc136
   have hb141 := hb109.pure hc136
   refine WR.batch 1 [(6, pt g2 0), (7, pt g12 0), (58, .bool (((((kind_Holds a0 a3 a4 a5) && (decide (a5 ≥ (0 : Int)))) && (decide (a5 ≤ (65535 : Int)))) && (!(kind_Holds a1 a3 a4 a5))) || ((kind_Within a1 a2) && (!(kind_Within a0 a2)))))] (by kernel_rfl) ?_
   exact WR.keep [6, 7, 58] (by kernel_rfl) (hM86 _ ((((Chg.refl [] w78).pure hc88).pure hc104).pure hc136))
 intro w142 hc143
 have hz145 := hc143.size
 have hC144 := hC80.pure hc143
 have hb146 := hb82.pure hc143
 have hb147 := hb83.pure hc143
 have hb148 := hb84.pure hc143
 refine WR.fin (by kernel_rfl) ?_
 refine go hK74 ?_
 refine CW.cond ((x75 && (((((kind_Holds a0 a3 a4 a5) && (decide (a5 ≥ (0 : Int)))) && (decide (a5 ≤ (65535 : Int)))) && (!(kind_Holds a1 a3 a4 a5))) || ((kind_Within a1 a2) && (!(kind_Within a0 a2)))))) (by kernel_rfl) (fun ht149 => ?_) (fun ht149 => ?_)
 ·
  have hs150 := ifT ht149 hs77
  replace ht149 : (x75 = true) ∧ ((((((kind_Holds a0 a3 a4 a5) = true) ∧ (a5 ≥ (0 : Int))) ∧ (a5 ≤ (65535 : Int))) ∧ ((kind_Holds a1 a3 a4 a5) = false)) ∨ (((kind_Within a1 a2) = true) ∧ ((kind_Within a0 a2) = false))) := ⟨(bAndT ht149).1, (orMap (bOrT (bAndT ht149).2) (fun h => ⟨⟨⟨(bAndT (bAndT (bAndT h).1).1).1, (of_decide_eq_true (bAndT (bAndT (bAndT h).1).1).2)⟩, (of_decide_eq_true (bAndT (bAndT h).1).2)⟩, (bNotT (bAndT h).2)⟩) (fun h => ⟨(bAndT h).1, (bNotT (bAndT h).2)⟩))⟩
  refine CW.seq fun K151 hK151 => ?_
  refine CW.region ?_
  refine WR.batch 1 [(12, .bool false)] (by kernel_rfl) ?_
  refine WR.fin (by kernel_rfl) ?_
  refine go hK151 ?_
  refine CW.ret ?_
  exact retV (.bool false) (by kernel_rfl) (⟨hC144, (congrArg (fun r : Bool => (.bool r : Value)) hs150).symm⟩)
 have hs152 := ifF ht149 hs77
 replace ht149 : (x75 = false) ∨ ((((((kind_Holds a0 a3 a4 a5) = false) ∨ (¬ (a5 ≥ (0 : Int)))) ∨ (¬ (a5 ≤ (65535 : Int)))) ∨ ((kind_Holds a1 a3 a4 a5) = true)) ∧ (((kind_Within a1 a2) = false) ∨ ((kind_Within a0 a2) = true))) := (orMap (bAndF ht149) (fun h => h) (fun h => ⟨(orMap (bAndF (bOrF h).1) (fun h => (orMap (bAndF h) (fun h => (orMap (bAndF h) (fun h => h) (fun h => (of_decide_eq_false h)))) (fun h => (of_decide_eq_false h)))) (fun h => (bNotF h))), (orMap (bAndF (bOrF h).2) (fun h => h) (fun h => (bNotF h)))⟩))
 refine CW.skip ?_
 refine go hK73 ?_
 refine CW.seq fun K153 hK153 => ?_
 refine CW.seq fun K154 hK154 => ?_
 refine CW.region ?_
 refine WR.load (dst := some 59) (t := 56) (o := 0) hb146 (by kernel_rfl) (.agg #[.int .u8 a0.Kind, .int .u64 a0.In.Lo, .int .u64 a0.In.Hi]) (by kernel_rfl) ?_
 obtain ⟨x155, hx156⟩ : ∃ x, kind_Right a0 = x := ⟨_, rfl⟩
 have hs157 := letS hx156 hs152
 refine WR.call (dst := some 60) (by kernel_rfl) (retE (g := fun r : Bool => (.bool r : Value)) hx156 (kind_Right_any a0 w142  ⟨(by omega), (by omega), (by omega)⟩ )) ?_
 rintro _ w158 hc159 rfl
 have hz161 := hc159.size
 have hC160 := hC144.pure hc159
 have hb162 := hb146.pure hc159
 have hb163 := hb147.pure hc159
 have hb164 := hb148.pure hc159
 refine WR.batch 2 [(6, pt g2 0), (7, pt g12 0), (62, .bool (!x155))] (by kernel_rfl) ?_
 refine WR.mergeW 8 [(6, pt g2 0), (7, pt g12 0), (66, .bool ((!x155) || (!(kind_Right a1))))] (fun w' => Chg [] w158 w') (fun Q' => ?_) ?_
 ·
  cases hg165 : (!x155)
  ·
   replace hg165 : x155 = true := (bNotF hg165)
   intro hM166
   refine WR.load (dst := some 63) (t := 56) (o := 0) hb163 (by kernel_rfl) (.agg #[.int .u8 a1.Kind, .int .u64 a1.In.Lo, .int .u64 a1.In.Hi]) (by kernel_rfl) ?_
   refine WR.call (dst := some 64) (by kernel_rfl) (kind_Right_any a1 w158  ⟨(by omega), (by omega), (by omega)⟩ ) ?_
   rintro _ w167 hc168 rfl
   have hz170 := hc168.size
   have hC169 := hC160.pure hc168
   have hb171 := hb162.pure hc168
   have hb172 := hb163.pure hc168
   have hb173 := hb164.pure hc168
   refine WR.batch 2 [(6, pt g2 0), (7, pt g12 0), (66, .bool (!(kind_Right a1)))] (by kernel_rfl) ?_
   exact WR.keep [6, 7, 66] (by kernel_rfl) (hM166 _ ((Chg.refl [] w158).pure hc168))
  ·
   replace hg165 : x155 = false := (bNotT hg165)
   intro hM166
   refine WR.batch 4 [(6, pt g2 0), (7, pt g12 0), (66, .bool true)] (by kernel_rfl) ?_
   exact WR.keep [6, 7, 66] (by kernel_rfl) (hM166 _ (Chg.refl [] w158))
 intro w174 hc175
 have hz177 := hc175.size
 have hC176 := hC160.pure hc175
 have hb178 := hb162.pure hc175
 have hb179 := hb163.pure hc175
 have hb180 := hb164.pure hc175
 refine WR.fin (by kernel_rfl) ?_
 refine go hK154 ?_
 refine CW.cond (((!x155) || (!(kind_Right a1)))) (by kernel_rfl) (fun ht181 => ?_) (fun ht181 => ?_)
 ·
  have hs182 := ifT ht181 hs157
  replace ht181 : (x155 = false) ∨ ((kind_Right a1) = false) := (orMap (bOrT ht181) (fun h => (bNotT h)) (fun h => (bNotT h)))
  refine CW.seq fun K183 hK183 => ?_
  refine CW.region ?_
  refine WR.load (dst := some 67) (t := 56) (o := 0) hb178 (by kernel_rfl) (.agg #[.int .u8 a0.Kind, .int .u64 a0.In.Lo, .int .u64 a0.In.Hi]) (by kernel_rfl) ?_
  refine WR.load (dst := some 68) (t := 56) (o := 0) hb179 (by kernel_rfl) (.agg #[.int .u8 a1.Kind, .int .u64 a1.In.Lo, .int .u64 a1.In.Hi]) (by kernel_rfl) ?_
  obtain ⟨x184, hx185⟩ : ∃ x, kind_Join a0 a1 = x := ⟨_, rfl⟩
  have hs187 := letS hx185 hs182
  have hx188 : (0 ≤ x184.Kind ∧ x184.Kind ≤ 255) ∧ (0 ≤ x184.In.Lo ∧ x184.In.Lo ≤ 18446744073709551615) ∧ (0 ≤ x184.In.Hi ∧ x184.In.Hi ≤ 18446744073709551615) := by rw [← hx185]; exact kind_Join_ok a0 a1 ⟨(by omega), (by omega), (by omega)⟩ ⟨(by omega), (by omega), (by omega)⟩ 
  refine WR.call (dst := some 69) (by kernel_rfl) (retE (g := fun r : TKnown => (.agg #[.int .u8 r.Kind, .int .u64 r.In.Lo, .int .u64 r.In.Hi] : Value)) hx185 (kind_Join_any a0 a1 w174  ⟨(by omega), (by omega), (by omega)⟩ ⟨(by omega), (by omega), (by omega)⟩ )) ?_
  rintro _ w189 hc190 rfl
  have hz192 := hc190.size
  have hC191 := hC176.pure hc190
  have hb193 := hb178.pure hc190
  have hb194 := hb179.pure hc190
  have hb195 := hb180.pure hc190
  refine WR.batch 1 [(69, .agg #[.int .u8 x184.Kind, .int .u64 x184.In.Lo, .int .u64 x184.In.Hi]), (70, .agg #[.int .u8 0, .int .u64 0, .int .u64 0])] (by kernel_rfl) ?_
  refine WR.valR (dst := some 71) (v := .bool ((x184.Kind == (0 : Int)) && ((x184.In.Lo == (0 : Int)) && (x184.In.Hi == (0 : Int))))) (w' := w189) (run_eqS (t := 56) (xs := #[.int .u8 x184.Kind, .int .u64 x184.In.Lo, .int .u64 x184.In.Hi]) (ys := #[.int .u8 0, .int .u64 0, .int .u64 0]) (neg := false) (b := ((x184.Kind == (0 : Int)) && ((x184.In.Lo == (0 : Int)) && (x184.In.Hi == (0 : Int))))) (by kernel_rfl) (by kernel_rfl) (by kernel_rfl) w189) ?_
  refine WR.batch 1 [(12, .bool ((x184.Kind == (0 : Int)) && ((x184.In.Lo == (0 : Int)) && (x184.In.Hi == (0 : Int)))))] (by kernel_rfl) ?_
  refine WR.fin (by kernel_rfl) ?_
  refine go hK183 ?_
  refine CW.ret ?_
  exact retV (.bool ((x184.Kind == (0 : Int)) && ((x184.In.Lo == (0 : Int)) && (x184.In.Hi == (0 : Int))))) (by kernel_rfl) (⟨hC191, (congrArg (fun r : Bool => (.bool r : Value)) hs187).symm⟩)
 have hs196 := ifF ht181 hs157
 replace ht181 : (x155 = true) ∧ ((kind_Right a1) = true) := ⟨(bNotF (bOrF ht181).1), (bNotF (bOrF ht181).2)⟩
 refine CW.skip ?_
 refine go hK153 ?_
 refine CW.seq fun K197 hK197 => ?_
 refine CW.region ?_
 refine WR.load (dst := some 72) (t := 56) (o := 0) hb178 (by kernel_rfl) (.agg #[.int .u8 a0.Kind, .int .u64 a0.In.Lo, .int .u64 a0.In.Hi]) (by kernel_rfl) ?_
 refine WR.load (dst := some 73) (t := 56) (o := 0) hb179 (by kernel_rfl) (.agg #[.int .u8 a1.Kind, .int .u64 a1.In.Lo, .int .u64 a1.In.Hi]) (by kernel_rfl) ?_
 obtain ⟨x198, hx199⟩ : ∃ x, kind_Join a0 a1 = x := ⟨_, rfl⟩
 have hs201 := letS hx199 hs196
 have hx202 : (0 ≤ x198.Kind ∧ x198.Kind ≤ 255) ∧ (0 ≤ x198.In.Lo ∧ x198.In.Lo ≤ 18446744073709551615) ∧ (0 ≤ x198.In.Hi ∧ x198.In.Hi ≤ 18446744073709551615) := by rw [← hx199]; exact kind_Join_ok a0 a1 ⟨(by omega), (by omega), (by omega)⟩ ⟨(by omega), (by omega), (by omega)⟩ 
 refine WR.call (dst := some 74) (by kernel_rfl) (retE (g := fun r : TKnown => (.agg #[.int .u8 r.Kind, .int .u64 r.In.Lo, .int .u64 r.In.Hi] : Value)) hx199 (kind_Join_any a0 a1 w174  ⟨(by omega), (by omega), (by omega)⟩ ⟨(by omega), (by omega), (by omega)⟩ )) ?_
 rintro _ w203 hc204 rfl
 have hz206 := hc204.size
 have hC205 := hC176.pure hc204
 have hb207 := hb178.pure hc204
 have hb208 := hb179.pure hc204
 have hb209 := hb180.pure hc204
 refine WR.alloc (dst := some 13) (e := 56) (by kernel_rfl) #[.int .u8 0, .int .u64 0, .int .u64 0] (by kernel_rfl) ?_
 intro g210 w211 hN212
 have hl215 : g2 < g210 := Nat.lt_of_lt_of_le hb207.lt hN212.fresh
 have hl216 : g12 < g210 := Nat.lt_of_lt_of_le hb208.lt hN212.fresh
 have hl217 : g24 < g210 := Nat.lt_of_lt_of_le hb209.lt hN212.fresh
 have hf214 : w.heap.size ≤ g210 := Nat.le_trans hC205.size hN212.fresh
 have hfr219 := hN212.fresh
 have hc218 := hN212.chg
 have hz221 := hc218.size
 have hC220 := hC205.pure hc218
 have hb222 := hb207.pure hc218
 have hb223 := hb208.pure hc218
 have hb224 := hb209.pure hc218
 have hb213 := hN212.blk
 have hg225 := hb213.lt
 refine WR.store (t := 56) (o := 0) (v := .agg #[.int .u8 x198.Kind, .int .u64 x198.In.Lo, .int .u64 x198.In.Hi]) hb213 (by kernel_rfl) #[.int .u8 x198.Kind, .int .u64 x198.In.Lo, .int .u64 x198.In.Hi] (by kernel_rfl) ?_
 intro w226 hb227 hc228
 have hz230 := hc228.size
 have hC229 := hC220.step1 hc228 (by omega)
 have hb231 := hb222.chg1 hc228 (by omega)
 have hb232 := hb223.chg1 hc228 (by omega)
 have hb233 := hb224.chg1 hc228 (by omega)
 refine WR.fin (by kernel_rfl) ?_
 refine go hK197 ?_
 refine CW.seq fun K234 hK234 => ?_
 refine CW.regionQ (by kernel_rfl) (by kernel_rfl) ?_
 refine WQ.load (dst := some 75) (t := 56) (o := 0) (fun _ hq => hb227.pure hq) (by kernel_rfl) (.agg #[.int .u8 x198.Kind, .int .u64 x198.In.Lo, .int .u64 x198.In.Hi]) (by kernel_rfl) ?_
 obtain ⟨x235, hx236⟩ : ∃ x, kind_Right x198 = x := ⟨_, rfl⟩
 have hs237 := letS hx236 hs201
 refine WQ.call (dst := some 76) (.bool x235) (fun _ => by kernel_rfl) (fun _ _ h h' => h.pure h') (fun wq hq => retE (g := fun r : Bool => (.bool r : Value)) hx236 (kind_Right_any x198 wq  ⟨(by omega), (by omega), (by omega)⟩ )) ?_
 refine WQ.val (dst := some 77) (.bool x235) (fun _ => by kernel_rfl) ?_
 refine WQ.merge 7 [(6, pt g2 0), (7, pt g12 0), (13, pt g210 0), (81, .bool (x235 && (kind_Within a0 x198)))] (fun Q' => ?_) ?_
 ·
  cases hg238 : x235
  ·
   intro hM239
   refine WQ.pass1 (dst := some 78) (by kernel_rfl) ?_
   refine WQ.pass1 (dst := some 79) (by kernel_rfl) ?_
   refine WQ.pass1 (dst := some 80) (by kernel_rfl) ?_
   refine WQ.val (dst := some 81) (.bool false) (fun _ => by kernel_rfl) ?_
   exact WQ.keep [6, 7, 13, 81] (by kernel_rfl) hM239
  ·
   intro hM239
   refine WQ.load (dst := some 78) (t := 56) (o := 0) (fun _ hq => hb231.pure hq) (by kernel_rfl) (.agg #[.int .u8 a0.Kind, .int .u64 a0.In.Lo, .int .u64 a0.In.Hi]) (by kernel_rfl) ?_
   refine WQ.load (dst := some 79) (t := 56) (o := 0) (fun _ hq => hb227.pure hq) (by kernel_rfl) (.agg #[.int .u8 x198.Kind, .int .u64 x198.In.Lo, .int .u64 x198.In.Hi]) (by kernel_rfl) ?_
   refine WQ.call (dst := some 80) (.bool (kind_Within a0 x198)) (fun _ => by kernel_rfl) (fun _ _ h h' => h.pure h') (fun wq hq => kind_Within_any a0 x198 wq  ⟨(by omega), (by omega), (by omega)⟩ ⟨(by omega), (by omega), (by omega)⟩ ) ?_
   refine WQ.val (dst := some 81) (.bool (kind_Within a0 x198)) (fun _ => by kernel_rfl) ?_
   exact WQ.keep [6, 7, 13, 81] (by kernel_rfl) hM239
 have hx240 : (0 ≤ (kind_Join a1 a0).Kind ∧ (kind_Join a1 a0).Kind ≤ 255) ∧ (0 ≤ (kind_Join a1 a0).In.Lo ∧ (kind_Join a1 a0).In.Lo ≤ 18446744073709551615) ∧ (0 ≤ (kind_Join a1 a0).In.Hi ∧ (kind_Join a1 a0).In.Hi ≤ 18446744073709551615) := kind_Join_ok a1 a0 ⟨(by omega), (by omega), (by omega)⟩ ⟨(by omega), (by omega), (by omega)⟩ 
 refine WQ.val (dst := some 82) (.bool (x235 && (kind_Within a0 x198))) (fun _ => by kernel_rfl) ?_
 refine WQ.merge 12 [(6, pt g2 0), (7, pt g12 0), (13, pt g210 0), (86, .bool ((x235 && (kind_Within a0 x198)) && (kind_Within a1 x198)))] (fun Q' => ?_) ?_
 ·
  cases hg241 : (x235 && (kind_Within a0 x198))
  ·
   replace hg241 : (x235 = false) ∨ ((kind_Within a0 x198) = false) := (orMap (bAndF hg241) (fun h => h) (fun h => h))
   intro hM242
   refine WQ.pass1 (dst := some 83) (by kernel_rfl) ?_
   refine WQ.pass1 (dst := some 84) (by kernel_rfl) ?_
   refine WQ.pass1 (dst := some 85) (by kernel_rfl) ?_
   refine WQ.val (dst := some 86) (.bool false) (fun _ => by kernel_rfl) ?_
   exact WQ.keep [6, 7, 13, 86] (by kernel_rfl) hM242
  ·
   replace hg241 : (x235 = true) ∧ ((kind_Within a0 x198) = true) := ⟨(bAndT hg241).1, (bAndT hg241).2⟩
   intro hM242
   refine WQ.load (dst := some 83) (t := 56) (o := 0) (fun _ hq => hb232.pure hq) (by kernel_rfl) (.agg #[.int .u8 a1.Kind, .int .u64 a1.In.Lo, .int .u64 a1.In.Hi]) (by kernel_rfl) ?_
   refine WQ.load (dst := some 84) (t := 56) (o := 0) (fun _ hq => hb227.pure hq) (by kernel_rfl) (.agg #[.int .u8 x198.Kind, .int .u64 x198.In.Lo, .int .u64 x198.In.Hi]) (by kernel_rfl) ?_
   refine WQ.call (dst := some 85) (.bool (kind_Within a1 x198)) (fun _ => by kernel_rfl) (fun _ _ h h' => h.pure h') (fun wq hq => kind_Within_any a1 x198 wq  ⟨(by omega), (by omega), (by omega)⟩ ⟨(by omega), (by omega), (by omega)⟩ ) ?_
   refine WQ.val (dst := some 86) (.bool (kind_Within a1 x198)) (fun _ => by kernel_rfl) ?_
   exact WQ.keep [6, 7, 13, 86] (by kernel_rfl) hM242
 have hx243 : (0 ≤ (kind_Join a1 a0).Kind ∧ (kind_Join a1 a0).Kind ≤ 255) ∧ (0 ≤ (kind_Join a1 a0).In.Lo ∧ (kind_Join a1 a0).In.Lo ≤ 18446744073709551615) ∧ (0 ≤ (kind_Join a1 a0).In.Hi ∧ (kind_Join a1 a0).In.Hi ≤ 18446744073709551615) := kind_Join_ok a1 a0 ⟨(by omega), (by omega), (by omega)⟩ ⟨(by omega), (by omega), (by omega)⟩ 
 refine WQ.val (dst := some 87) (.bool ((x235 && (kind_Within a0 x198)) && (kind_Within a1 x198))) (fun _ => by kernel_rfl) ?_
 refine WQ.merge 19 [(93, .bool (((x235 && (kind_Within a0 x198)) && (kind_Within a1 x198)) && ((x198.Kind == (kind_Join a1 a0).Kind) && ((x198.In.Lo == (kind_Join a1 a0).In.Lo) && (x198.In.Hi == (kind_Join a1 a0).In.Hi)))))] (fun Q' => ?_) ?_
 ·
  cases hg244 : ((x235 && (kind_Within a0 x198)) && (kind_Within a1 x198))
  ·
   replace hg244 : ((x235 = false) ∨ ((kind_Within a0 x198) = false)) ∨ ((kind_Within a1 x198) = false) := (orMap (bAndF hg244) (fun h => (orMap (bAndF h) (fun h => h) (fun h => h))) (fun h => h))
   intro hM245
   refine WQ.pass1 (dst := some 88) (by kernel_rfl) ?_
   refine WQ.pass1 (dst := some 89) (by kernel_rfl) ?_
   refine WQ.pass1 (dst := some 90) (by kernel_rfl) ?_
   refine WQ.pass1 (dst := some 91) (by kernel_rfl) ?_
   refine WQ.pass1 (dst := some 92) (by kernel_rfl) ?_
   refine WQ.val (dst := some 93) (.bool false) (fun _ => by kernel_rfl) ?_
   exact WQ.keep [93] (by kernel_rfl) hM245
  ·
   replace hg244 : ((x235 = true) ∧ ((kind_Within a0 x198) = true)) ∧ ((kind_Within a1 x198) = true) := ⟨⟨(bAndT (bAndT hg244).1).1, (bAndT (bAndT hg244).1).2⟩, (bAndT hg244).2⟩
   intro hM245
   refine WQ.load (dst := some 88) (t := 56) (o := 0) (fun _ hq => hb227.pure hq) (by kernel_rfl) (.agg #[.int .u8 x198.Kind, .int .u64 x198.In.Lo, .int .u64 x198.In.Hi]) (by kernel_rfl) ?_
   refine WQ.load (dst := some 89) (t := 56) (o := 0) (fun _ hq => hb232.pure hq) (by kernel_rfl) (.agg #[.int .u8 a1.Kind, .int .u64 a1.In.Lo, .int .u64 a1.In.Hi]) (by kernel_rfl) ?_
   refine WQ.load (dst := some 90) (t := 56) (o := 0) (fun _ hq => hb231.pure hq) (by kernel_rfl) (.agg #[.int .u8 a0.Kind, .int .u64 a0.In.Lo, .int .u64 a0.In.Hi]) (by kernel_rfl) ?_
   have hx246 : (0 ≤ (kind_Join a1 a0).Kind ∧ (kind_Join a1 a0).Kind ≤ 255) ∧ (0 ≤ (kind_Join a1 a0).In.Lo ∧ (kind_Join a1 a0).In.Lo ≤ 18446744073709551615) ∧ (0 ≤ (kind_Join a1 a0).In.Hi ∧ (kind_Join a1 a0).In.Hi ≤ 18446744073709551615) := kind_Join_ok a1 a0 ⟨(by omega), (by omega), (by omega)⟩ ⟨(by omega), (by omega), (by omega)⟩ 
   refine WQ.call (dst := some 91) (.agg #[.int .u8 (kind_Join a1 a0).Kind, .int .u64 (kind_Join a1 a0).In.Lo, .int .u64 (kind_Join a1 a0).In.Hi]) (fun _ => by kernel_rfl) (fun _ _ h h' => h.pure h') (fun wq hq => kind_Join_any a1 a0 wq  ⟨(by omega), (by omega), (by omega)⟩ ⟨(by omega), (by omega), (by omega)⟩ ) ?_
   refine WQ.val (dst := some 92) (.bool ((x198.Kind == (kind_Join a1 a0).Kind) && ((x198.In.Lo == (kind_Join a1 a0).In.Lo) && (x198.In.Hi == (kind_Join a1 a0).In.Hi)))) (run_eqS (t := 56) (xs := #[.int .u8 x198.Kind, .int .u64 x198.In.Lo, .int .u64 x198.In.Hi]) (ys := #[.int .u8 (kind_Join a1 a0).Kind, .int .u64 (kind_Join a1 a0).In.Lo, .int .u64 (kind_Join a1 a0).In.Hi]) (neg := false) (b := ((x198.Kind == (kind_Join a1 a0).Kind) && ((x198.In.Lo == (kind_Join a1 a0).In.Lo) && (x198.In.Hi == (kind_Join a1 a0).In.Hi)))) (by kernel_rfl) (by kernel_rfl) (by kernel_rfl)) ?_
   refine WQ.val (dst := some 93) (.bool ((x198.Kind == (kind_Join a1 a0).Kind) && ((x198.In.Lo == (kind_Join a1 a0).In.Lo) && (x198.In.Hi == (kind_Join a1 a0).In.Hi)))) (fun _ => by kernel_rfl) ?_
   exact WQ.keep [93] (by kernel_rfl) hM245
 have hx247 : (0 ≤ (kind_Join a1 a0).Kind ∧ (kind_Join a1 a0).Kind ≤ 255) ∧ (0 ≤ (kind_Join a1 a0).In.Lo ∧ (kind_Join a1 a0).In.Lo ≤ 18446744073709551615) ∧ (0 ≤ (kind_Join a1 a0).In.Hi ∧ (kind_Join a1 a0).In.Hi ≤ 18446744073709551615) := kind_Join_ok a1 a0 ⟨(by omega), (by omega), (by omega)⟩ ⟨(by omega), (by omega), (by omega)⟩ 
 refine WQ.val (dst := some 12) (.bool (((x235 && (kind_Within a0 x198)) && (kind_Within a1 x198)) && ((x198.Kind == (kind_Join a1 a0).Kind) && ((x198.In.Lo == (kind_Join a1 a0).In.Lo) && (x198.In.Hi == (kind_Join a1 a0).In.Hi))))) (fun _ => by kernel_rfl) ?_
 refine WQ.fin (by kernel_rfl) ?_
 intro w248 hc249
 have hz251 := hc249.size
 have hC250 := hC229.pure hc249
 have hb252 := hb231.pure hc249
 have hb253 := hb232.pure hc249
 have hb254 := hb233.pure hc249
 have hb255 := hb227.pure hc249
 refine go hK234 ?_
 refine CW.ret ?_
 exact retV (.bool (((x235 && (kind_Within a0 x198)) && (kind_Within a1 x198)) && ((x198.Kind == (kind_Join a1 a0).Kind) && ((x198.In.Lo == (kind_Join a1 a0).In.Lo) && (x198.In.Hi == (kind_Join a1 a0).In.Hi))))) (by kernel_rfl) (⟨hC250, (congrArg (fun r : Bool => (.bool r : Value)) hs237).symm⟩)
end Go.V
