import Derived.Test.YtjiagljaipadmaaProg
import Derived.Test.YtjiagljaipadmaaKa
namespace Go.V
open Go.RowKit Go.Proofs
def law12_known (a0 : Int) (a1 : Int) (a2 : Int)  : TKnown := (⟨a0, (⟨a1, a2⟩ : TSpan)⟩ : TKnown)

theorem law12_known_ok (a0 : Int) (a1 : Int) (a2 : Int)  (_h_a0 : (0 ≤ a0 ∧ a0 ≤ 255)) (_h_a1 : (0 ≤ a1 ∧ a1 ≤ 18446744073709551615)) (_h_a2 : (0 ≤ a2 ∧ a2 ≤ 18446744073709551615))  : (0 ≤ (law12_known a0 a1 a2).Kind ∧ (law12_known a0 a1 a2).Kind ≤ 255) ∧ (0 ≤ (law12_known a0 a1 a2).In.Lo ∧ (law12_known a0 a1 a2).In.Lo ≤ 18446744073709551615) ∧ (0 ≤ (law12_known a0 a1 a2).In.Hi ∧ (law12_known a0 a1 a2).In.Hi ≤ 18446744073709551615) := by
 rw [law12_known.eq_1]
 exact (by exact (show (0 ≤ a0 ∧ a0 ≤ 255) ∧ (0 ≤ a1 ∧ a1 ≤ 18446744073709551615) ∧ (0 ≤ a2 ∧ a2 ≤ 18446744073709551615) from ⟨(by omega), (by omega), (by omega)⟩))

theorem law12_known_any (a0 : Int) (a1 : Int) (a2 : Int)   (w : World)  (_h_a0 : (0 ≤ a0 ∧ a0 ≤ 255)) (_h_a1 : (0 ≤ a1 ∧ a1 ≤ 18446744073709551615)) (_h_a2 : (0 ≤ a2 ∧ a2 ≤ 18446744073709551615))  : Calls Try.prog 63 #[.int .u8 a0, .int .u64 a1, .int .u64 a2] w (RetV w (.agg #[.int .u8 (law12_known a0 a1 a2).Kind, .int .u64 (law12_known a0 a1 a2).In.Lo, .int .u64 (law12_known a0 a1 a2).In.Hi])) := by
 have hs := law12_known.eq_1 a0 a1 a2
 refine calls_of_CW Try.func63 rfl (n := 12) Try.ntmps63 (by kernel_rfl) [0, 1, 2] (F := [(0, .int .u8 a0), (1, .int .u64 a1), (2, .int .u64 a2)]) (by kernel_rfl) ?_
 refine CW.seq fun K1 hK1 => ?_
 refine CW.region ?_
 refine WR.alloc (dst := some 6) (e := 56) (by kernel_rfl) #[.int .u8 0, .int .u64 0, .int .u64 0] (by kernel_rfl) ?_
 intro g2 w3 hN4
 have hf6 : w.heap.size ≤ g2 := hN4.fresh
 have hfr8 := hN4.fresh
 have hc7 := hN4.chg
 have hz10 := hc7.size
 have hC9 := (Chg.refl [] w).pure hc7
 have hb5 := hN4.blk
 have hg11 := hb5.lt
 refine WR.fin (by kernel_rfl) ?_
 refine go hK1 ?_
 refine CW.seq fun K12 hK12 => ?_
 refine CW.region ?_
 refine WR.batch 5 [(6, pt g2 0), (11, .agg #[.int .u8 a0, .int .u64 a1, .int .u64 a2])] (by kernel_rfl) ?_
 refine WR.store (t := 56) (o := 0) (v := .agg #[.int .u8 a0, .int .u64 a1, .int .u64 a2]) hb5 (by kernel_rfl) #[.int .u8 a0, .int .u64 a1, .int .u64 a2] (by kernel_rfl) ?_
 intro w13 hb14 hc15
 have hz17 := hc15.size
 have hC16 := hC9.step1 hc15 (by omega)
 refine WR.fin (by kernel_rfl) ?_
 refine go hK12 ?_
 refine CW.ret ?_
 exact retC [.agg #[.int .u8 a0, .int .u64 a1, .int .u64 a2]] (.agg #[.int .u8 a0, .int .u64 a1, .int .u64 a2]) rfl ⟨resCell hb14 rfl (by kernel_rfl), trivial⟩ (⟨hC16, (congrArg (fun r : TKnown => (.agg #[.int .u8 r.Kind, .int .u64 r.In.Lo, .int .u64 r.In.Hi] : Value)) hs).symm⟩)

def law12_awake   : Bool := (letF (law12_known (2 : Int) (0 : Int) (0 : Int)) fun x3 => (letF (law12_known (1 : Int) (4 : Int) (8 : Int)) fun x12 => (letF (kind_Do (1 : Int) false x3 x12) fun x21 => (letF (law12_known (1 : Int) (9 : Int) (9 : Int)) fun x46 => (letF (law12_known (1 : Int) (0 : Int) (3 : Int)) fun x56 => (letF (kind_Do (4 : Int) false x46 x56) fun x66 => (letF (law12_known (4 : Int) (0 : Int) (0 : Int)) fun x95 => (letF (law12_known (1 : Int) (3 : Int) (70000 : Int)) fun x106 => (letF (kind_Join x95 x106) fun x117 => (((((x21.2 == (0 : Int)) && ((x21.1.Kind == (law12_known (2 : Int) (4 : Int) (8 : Int)).Kind) && ((x21.1.In.Lo == (law12_known (2 : Int) (4 : Int) (8 : Int)).In.Lo) && (x21.1.In.Hi == (law12_known (2 : Int) (4 : Int) (8 : Int)).In.Hi)))) && (x66.2 == (113 : Int))) && ((x117.Kind == (law12_known (1 : Int) (0 : Int) (70000 : Int)).Kind) && ((x117.In.Lo == (law12_known (1 : Int) (0 : Int) (70000 : Int)).In.Lo) && (x117.In.Hi == (law12_known (1 : Int) (0 : Int) (70000 : Int)).In.Hi)))) && (kind_Within (law12_known (4 : Int) (0 : Int) (0 : Int)) (law12_known (1 : Int) (0 : Int) (65535 : Int)))))))))))))

set_option maxHeartbeats 4000000 in
theorem law12_awake_any    (w : World)    : Calls Try.prog 37 #[] w (RetV w (.bool law12_awake)) := by
 have hs := law12_awake.eq_1 
 refine calls_of_CW Try.func37 rfl (n := 42) Try.ntmps37 (by kernel_rfl) [] (F := []) (by kernel_rfl) ?_
 refine CW.seq fun K1 hK1 => ?_
 refine CW.region ?_
 refine WR.batch 1 [] (by kernel_rfl) ?_
 refine WR.fin (by kernel_rfl) ?_
 refine go hK1 ?_
 refine CW.seq fun K2 hK2 => ?_
 refine CW.region ?_
 obtain ⟨x3, hx4⟩ : ∃ x, law12_known (2 : Int) (0 : Int) (0 : Int) = x := ⟨_, rfl⟩
 have hs6 := letS hx4 hs
 have hx7 : (0 ≤ x3.Kind ∧ x3.Kind ≤ 255) ∧ (0 ≤ x3.In.Lo ∧ x3.In.Lo ≤ 18446744073709551615) ∧ (0 ≤ x3.In.Hi ∧ x3.In.Hi ≤ 18446744073709551615) := by rw [← hx4]; exact law12_known_ok (2 : Int) (0 : Int) (0 : Int) (by omega) (by omega) (by omega) 
 refine WR.call (dst := some 7) (by kernel_rfl) (retE (g := fun r : TKnown => (.agg #[.int .u8 r.Kind, .int .u64 r.In.Lo, .int .u64 r.In.Hi] : Value)) hx4 (law12_known_any (2 : Int) (0 : Int) (0 : Int) w  (by omega) (by omega) (by omega) )) ?_
 rintro _ w8 hc9 rfl
 have hz11 := hc9.size
 have hC10 := (Chg.refl [] w).pure hc9
 obtain ⟨x12, hx13⟩ : ∃ x, law12_known (1 : Int) (4 : Int) (8 : Int) = x := ⟨_, rfl⟩
 have hs15 := letS hx13 hs6
 have hx16 : (0 ≤ x12.Kind ∧ x12.Kind ≤ 255) ∧ (0 ≤ x12.In.Lo ∧ x12.In.Lo ≤ 18446744073709551615) ∧ (0 ≤ x12.In.Hi ∧ x12.In.Hi ≤ 18446744073709551615) := by rw [← hx13]; exact law12_known_ok (1 : Int) (4 : Int) (8 : Int) (by omega) (by omega) (by omega) 
 refine WR.call (dst := some 8) (by kernel_rfl) (retE (g := fun r : TKnown => (.agg #[.int .u8 r.Kind, .int .u64 r.In.Lo, .int .u64 r.In.Hi] : Value)) hx13 (law12_known_any (1 : Int) (4 : Int) (8 : Int) w8  (by omega) (by omega) (by omega) )) ?_
 rintro _ w17 hc18 rfl
 have hz20 := hc18.size
 have hC19 := hC10.pure hc18
 obtain ⟨x21, hx22⟩ : ∃ x, kind_Do (1 : Int) false x3 x12 = x := ⟨_, rfl⟩
 have hs24 := letS hx22 hs15
 have hx25 : (0 ≤ x21.1.Kind ∧ x21.1.Kind ≤ 255) ∧ (0 ≤ x21.1.In.Lo ∧ x21.1.In.Lo ≤ 18446744073709551615) ∧ (0 ≤ x21.1.In.Hi ∧ x21.1.In.Hi ≤ 18446744073709551615) ∧ (-9223372036854775808 ≤ x21.2 ∧ x21.2 ≤ 9223372036854775807) := by rw [← hx22]; exact kind_Do_ok (1 : Int) false x3 x12 (by omega) ⟨(by omega), (by omega), (by omega)⟩ ⟨(by omega), (by omega), (by omega)⟩ 
 refine WR.call (dst := some 9) (by kernel_rfl) (retE (g := fun r : (TKnown × Int) => (.tuple #[.agg #[.int .u8 r.1.Kind, .int .u64 r.1.In.Lo, .int .u64 r.1.In.Hi], .int .i64 r.2] : Value)) hx22 (kind_Do_any (1 : Int) false x3 x12 w17  (by omega) ⟨(by omega), (by omega), (by omega)⟩ ⟨(by omega), (by omega), (by omega)⟩ )) ?_
 rintro _ w26 hc27 rfl
 have hz29 := hc27.size
 have hC28 := hC19.pure hc27
 refine WR.batch 3 [(10, .agg #[.int .u8 x21.1.Kind, .int .u64 x21.1.In.Lo, .int .u64 x21.1.In.Hi]), (11, .int .i64 x21.2)] (by kernel_rfl) ?_
 refine WR.alloc (dst := some 1) (e := 56) (by kernel_rfl) #[.int .u8 0, .int .u64 0, .int .u64 0] (by kernel_rfl) ?_
 intro g30 w31 hN32
 have hf34 : w.heap.size ≤ g30 := Nat.le_trans hC28.size hN32.fresh
 have hfr36 := hN32.fresh
 have hc35 := hN32.chg
 have hz38 := hc35.size
 have hC37 := hC28.pure hc35
 have hb33 := hN32.blk
 have hg39 := hb33.lt
 refine WR.store (t := 56) (o := 0) (v := .agg #[.int .u8 x21.1.Kind, .int .u64 x21.1.In.Lo, .int .u64 x21.1.In.Hi]) hb33 (by kernel_rfl) #[.int .u8 x21.1.Kind, .int .u64 x21.1.In.Lo, .int .u64 x21.1.In.Hi] (by kernel_rfl) ?_
 intro w40 hb41 hc42
 have hz44 := hc42.size
 have hC43 := hC37.step1 hc42 (by omega)
 refine WR.batch 1 [(1, pt g30 0), (2, .int .i64 x21.2)] (by kernel_rfl) ?_
 refine WR.fin (by kernel_rfl) ?_
 refine go hK2 ?_
 refine CW.seq fun K45 hK45 => ?_
 refine CW.region ?_
 obtain ⟨x46, hx47⟩ : ∃ x, law12_known (1 : Int) (9 : Int) (9 : Int) = x := ⟨_, rfl⟩
 have hs49 := letS hx47 hs24
 have hx50 : (0 ≤ x46.Kind ∧ x46.Kind ≤ 255) ∧ (0 ≤ x46.In.Lo ∧ x46.In.Lo ≤ 18446744073709551615) ∧ (0 ≤ x46.In.Hi ∧ x46.In.Hi ≤ 18446744073709551615) := by rw [← hx47]; exact law12_known_ok (1 : Int) (9 : Int) (9 : Int) (by omega) (by omega) (by omega) 
 refine WR.call (dst := some 13) (by kernel_rfl) (retE (g := fun r : TKnown => (.agg #[.int .u8 r.Kind, .int .u64 r.In.Lo, .int .u64 r.In.Hi] : Value)) hx47 (law12_known_any (1 : Int) (9 : Int) (9 : Int) w40  (by omega) (by omega) (by omega) )) ?_
 rintro _ w51 hc52 rfl
 have hz54 := hc52.size
 have hC53 := hC43.pure hc52
 have hb55 := hb41.pure hc52
 obtain ⟨x56, hx57⟩ : ∃ x, law12_known (1 : Int) (0 : Int) (3 : Int) = x := ⟨_, rfl⟩
 have hs59 := letS hx57 hs49
 have hx60 : (0 ≤ x56.Kind ∧ x56.Kind ≤ 255) ∧ (0 ≤ x56.In.Lo ∧ x56.In.Lo ≤ 18446744073709551615) ∧ (0 ≤ x56.In.Hi ∧ x56.In.Hi ≤ 18446744073709551615) := by rw [← hx57]; exact law12_known_ok (1 : Int) (0 : Int) (3 : Int) (by omega) (by omega) (by omega) 
 refine WR.call (dst := some 14) (by kernel_rfl) (retE (g := fun r : TKnown => (.agg #[.int .u8 r.Kind, .int .u64 r.In.Lo, .int .u64 r.In.Hi] : Value)) hx57 (law12_known_any (1 : Int) (0 : Int) (3 : Int) w51  (by omega) (by omega) (by omega) )) ?_
 rintro _ w61 hc62 rfl
 have hz64 := hc62.size
 have hC63 := hC53.pure hc62
 have hb65 := hb55.pure hc62
 obtain ⟨x66, hx67⟩ : ∃ x, kind_Do (4 : Int) false x46 x56 = x := ⟨_, rfl⟩
 have hs69 := letS hx67 hs59
 have hx70 : (0 ≤ x66.1.Kind ∧ x66.1.Kind ≤ 255) ∧ (0 ≤ x66.1.In.Lo ∧ x66.1.In.Lo ≤ 18446744073709551615) ∧ (0 ≤ x66.1.In.Hi ∧ x66.1.In.Hi ≤ 18446744073709551615) ∧ (-9223372036854775808 ≤ x66.2 ∧ x66.2 ≤ 9223372036854775807) := by rw [← hx67]; exact kind_Do_ok (4 : Int) false x46 x56 (by omega) ⟨(by omega), (by omega), (by omega)⟩ ⟨(by omega), (by omega), (by omega)⟩ 
 refine WR.call (dst := some 15) (by kernel_rfl) (retE (g := fun r : (TKnown × Int) => (.tuple #[.agg #[.int .u8 r.1.Kind, .int .u64 r.1.In.Lo, .int .u64 r.1.In.Hi], .int .i64 r.2] : Value)) hx67 (kind_Do_any (4 : Int) false x46 x56 w61  (by omega) ⟨(by omega), (by omega), (by omega)⟩ ⟨(by omega), (by omega), (by omega)⟩ )) ?_
 rintro _ w71 hc72 rfl
 have hz74 := hc72.size
 have hC73 := hC63.pure hc72
 have hb75 := hb65.pure hc72
 refine WR.batch 3 [(1, pt g30 0), (2, .int .i64 x21.2), (16, .agg #[.int .u8 x66.1.Kind, .int .u64 x66.1.In.Lo, .int .u64 x66.1.In.Hi]), (17, .int .i64 x66.2)] (by kernel_rfl) ?_
 refine WR.alloc (dst := some 3) (e := 56) (by kernel_rfl) #[.int .u8 0, .int .u64 0, .int .u64 0] (by kernel_rfl) ?_
 intro g76 w77 hN78
 have hl81 : g30 < g76 := Nat.lt_of_lt_of_le hb75.lt hN78.fresh
 have hf80 : w.heap.size ≤ g76 := Nat.le_trans hC73.size hN78.fresh
 have hfr83 := hN78.fresh
 have hc82 := hN78.chg
 have hz85 := hc82.size
 have hC84 := hC73.pure hc82
 have hb86 := hb75.pure hc82
 have hb79 := hN78.blk
 have hg87 := hb79.lt
 refine WR.store (t := 56) (o := 0) (v := .agg #[.int .u8 x66.1.Kind, .int .u64 x66.1.In.Lo, .int .u64 x66.1.In.Hi]) hb79 (by kernel_rfl) #[.int .u8 x66.1.Kind, .int .u64 x66.1.In.Lo, .int .u64 x66.1.In.Hi] (by kernel_rfl) ?_
 intro w88 hb89 hc90
 have hz92 := hc90.size
 have hC91 := hC84.step1 hc90 (by omega)
 have hb93 := hb86.chg1 hc90 (by omega)
 refine WR.batch 1 [(1, pt g30 0), (2, .int .i64 x21.2), (4, .int .i64 x66.2)] (by kernel_rfl) ?_
 refine WR.fin (by kernel_rfl) ?_
 refine go hK45 ?_
 refine CW.seq fun K94 hK94 => ?_
 refine CW.region ?_
 obtain ⟨x95, hx96⟩ : ∃ x, law12_known (4 : Int) (0 : Int) (0 : Int) = x := ⟨_, rfl⟩
 have hs98 := letS hx96 hs69
 have hx99 : (0 ≤ x95.Kind ∧ x95.Kind ≤ 255) ∧ (0 ≤ x95.In.Lo ∧ x95.In.Lo ≤ 18446744073709551615) ∧ (0 ≤ x95.In.Hi ∧ x95.In.Hi ≤ 18446744073709551615) := by rw [← hx96]; exact law12_known_ok (4 : Int) (0 : Int) (0 : Int) (by omega) (by omega) (by omega) 
 refine WR.call (dst := some 18) (by kernel_rfl) (retE (g := fun r : TKnown => (.agg #[.int .u8 r.Kind, .int .u64 r.In.Lo, .int .u64 r.In.Hi] : Value)) hx96 (law12_known_any (4 : Int) (0 : Int) (0 : Int) w88  (by omega) (by omega) (by omega) )) ?_
 rintro _ w100 hc101 rfl
 have hz103 := hc101.size
 have hC102 := hC91.pure hc101
 have hb104 := hb93.pure hc101
 have hb105 := hb89.pure hc101
 obtain ⟨x106, hx107⟩ : ∃ x, law12_known (1 : Int) (3 : Int) (70000 : Int) = x := ⟨_, rfl⟩
 have hs109 := letS hx107 hs98
 have hx110 : (0 ≤ x106.Kind ∧ x106.Kind ≤ 255) ∧ (0 ≤ x106.In.Lo ∧ x106.In.Lo ≤ 18446744073709551615) ∧ (0 ≤ x106.In.Hi ∧ x106.In.Hi ≤ 18446744073709551615) := by rw [← hx107]; exact law12_known_ok (1 : Int) (3 : Int) (70000 : Int) (by omega) (by omega) (by omega) 
 refine WR.call (dst := some 19) (by kernel_rfl) (retE (g := fun r : TKnown => (.agg #[.int .u8 r.Kind, .int .u64 r.In.Lo, .int .u64 r.In.Hi] : Value)) hx107 (law12_known_any (1 : Int) (3 : Int) (70000 : Int) w100  (by omega) (by omega) (by omega) )) ?_
 rintro _ w111 hc112 rfl
 have hz114 := hc112.size
 have hC113 := hC102.pure hc112
 have hb115 := hb104.pure hc112
 have hb116 := hb105.pure hc112
 obtain ⟨x117, hx118⟩ : ∃ x, kind_Join x95 x106 = x := ⟨_, rfl⟩
 have hs120 := letS hx118 hs109
 have hx121 : (0 ≤ x117.Kind ∧ x117.Kind ≤ 255) ∧ (0 ≤ x117.In.Lo ∧ x117.In.Lo ≤ 18446744073709551615) ∧ (0 ≤ x117.In.Hi ∧ x117.In.Hi ≤ 18446744073709551615) := by rw [← hx118]; exact kind_Join_ok x95 x106 ⟨(by omega), (by omega), (by omega)⟩ ⟨(by omega), (by omega), (by omega)⟩ 
 refine WR.call (dst := some 20) (by kernel_rfl) (retE (g := fun r : TKnown => (.agg #[.int .u8 r.Kind, .int .u64 r.In.Lo, .int .u64 r.In.Hi] : Value)) hx118 (kind_Join_any x95 x106 w111  ⟨(by omega), (by omega), (by omega)⟩ ⟨(by omega), (by omega), (by omega)⟩ )) ?_
 rintro _ w122 hc123 rfl
 have hz125 := hc123.size
 have hC124 := hC113.pure hc123
 have hb126 := hb115.pure hc123
 have hb127 := hb116.pure hc123
 refine WR.alloc (dst := some 5) (e := 56) (by kernel_rfl) #[.int .u8 0, .int .u64 0, .int .u64 0] (by kernel_rfl) ?_
 intro g128 w129 hN130
 have hl133 : g30 < g128 := Nat.lt_of_lt_of_le hb126.lt hN130.fresh
 have hl134 : g76 < g128 := Nat.lt_of_lt_of_le hb127.lt hN130.fresh
 have hf132 : w.heap.size ≤ g128 := Nat.le_trans hC124.size hN130.fresh
 have hfr136 := hN130.fresh
 have hc135 := hN130.chg
 have hz138 := hc135.size
 have hC137 := hC124.pure hc135
 have hb139 := hb126.pure hc135
 have hb140 := hb127.pure hc135
 have hb131 := hN130.blk
 have hg141 := hb131.lt
 refine WR.store (t := 56) (o := 0) (v := .agg #[.int .u8 x117.Kind, .int .u64 x117.In.Lo, .int .u64 x117.In.Hi]) hb131 (by kernel_rfl) #[.int .u8 x117.Kind, .int .u64 x117.In.Lo, .int .u64 x117.In.Hi] (by kernel_rfl) ?_
 intro w142 hb143 hc144
 have hz146 := hc144.size
 have hC145 := hC137.step1 hc144 (by omega)
 have hb147 := hb139.chg1 hc144 (by omega)
 have hb148 := hb140.chg1 hc144 (by omega)
 refine WR.fin (by kernel_rfl) ?_
 refine go hK94 ?_
 refine CW.seq fun K149 hK149 => ?_
 refine CW.regionQ (by kernel_rfl) (by kernel_rfl) ?_
 refine WQ.val (dst := some 21) (.int .i64 x21.2) (fun _ => by kernel_rfl) ?_
 refine WQ.val (dst := some 22) (.bool (x21.2 == (0 : Int))) (fun _ => by kernel_rfl) ?_
 refine WQ.val (dst := some 23) (.bool (x21.2 == (0 : Int))) (fun _ => by kernel_rfl) ?_
 refine WQ.merge 7 [(4, .int .i64 x66.2), (5, pt g128 0), (27, .bool ((x21.2 == (0 : Int)) && ((x21.1.Kind == (law12_known (2 : Int) (4 : Int) (8 : Int)).Kind) && ((x21.1.In.Lo == (law12_known (2 : Int) (4 : Int) (8 : Int)).In.Lo) && (x21.1.In.Hi == (law12_known (2 : Int) (4 : Int) (8 : Int)).In.Hi)))))] (fun Q' => ?_) ?_
 ·
  cases hg150 : (x21.2 == (0 : Int))
  ·
   replace hg150 : x21.2 ≠ (0 : Int) := (bEqF hg150)
   intro hM151
   refine WQ.pass1 (dst := some 24) (by kernel_rfl) ?_
   refine WQ.pass1 (dst := some 25) (by kernel_rfl) ?_
   refine WQ.pass1 (dst := some 26) (by kernel_rfl) ?_
   refine WQ.val (dst := some 27) (.bool false) (fun _ => by kernel_rfl) ?_
   exact WQ.keep [4, 5, 27] (by kernel_rfl) hM151
  ·
   replace hg150 : x21.2 = (0 : Int) := (bEqT hg150)
   intro hM151
   refine WQ.load (dst := some 24) (t := 56) (o := 0) (fun _ hq => hb147.pure hq) (by kernel_rfl) (.agg #[.int .u8 x21.1.Kind, .int .u64 x21.1.In.Lo, .int .u64 x21.1.In.Hi]) (by kernel_rfl) ?_
   have hx152 : (0 ≤ (law12_known (2 : Int) (4 : Int) (8 : Int)).Kind ∧ (law12_known (2 : Int) (4 : Int) (8 : Int)).Kind ≤ 255) ∧ (0 ≤ (law12_known (2 : Int) (4 : Int) (8 : Int)).In.Lo ∧ (law12_known (2 : Int) (4 : Int) (8 : Int)).In.Lo ≤ 18446744073709551615) ∧ (0 ≤ (law12_known (2 : Int) (4 : Int) (8 : Int)).In.Hi ∧ (law12_known (2 : Int) (4 : Int) (8 : Int)).In.Hi ≤ 18446744073709551615) := law12_known_ok (2 : Int) (4 : Int) (8 : Int) (by omega) (by omega) (by omega) 
   refine WQ.call (dst := some 25) (.agg #[.int .u8 (law12_known (2 : Int) (4 : Int) (8 : Int)).Kind, .int .u64 (law12_known (2 : Int) (4 : Int) (8 : Int)).In.Lo, .int .u64 (law12_known (2 : Int) (4 : Int) (8 : Int)).In.Hi]) (fun _ => by kernel_rfl) (fun _ _ h h' => h.pure h') (fun wq hq => law12_known_any (2 : Int) (4 : Int) (8 : Int) wq  (by omega) (by omega) (by omega) ) ?_
   refine WQ.val (dst := some 26) (.bool ((x21.1.Kind == (law12_known (2 : Int) (4 : Int) (8 : Int)).Kind) && ((x21.1.In.Lo == (law12_known (2 : Int) (4 : Int) (8 : Int)).In.Lo) && (x21.1.In.Hi == (law12_known (2 : Int) (4 : Int) (8 : Int)).In.Hi)))) (run_eqS (t := 56) (xs := #[.int .u8 x21.1.Kind, .int .u64 x21.1.In.Lo, .int .u64 x21.1.In.Hi]) (ys := #[.int .u8 (law12_known (2 : Int) (4 : Int) (8 : Int)).Kind, .int .u64 (law12_known (2 : Int) (4 : Int) (8 : Int)).In.Lo, .int .u64 (law12_known (2 : Int) (4 : Int) (8 : Int)).In.Hi]) (neg := false) (b := ((x21.1.Kind == (law12_known (2 : Int) (4 : Int) (8 : Int)).Kind) && ((x21.1.In.Lo == (law12_known (2 : Int) (4 : Int) (8 : Int)).In.Lo) && (x21.1.In.Hi == (law12_known (2 : Int) (4 : Int) (8 : Int)).In.Hi)))) (by kernel_rfl) (by kernel_rfl) (by kernel_rfl)) ?_
   refine WQ.val (dst := some 27) (.bool ((x21.1.Kind == (law12_known (2 : Int) (4 : Int) (8 : Int)).Kind) && ((x21.1.In.Lo == (law12_known (2 : Int) (4 : Int) (8 : Int)).In.Lo) && (x21.1.In.Hi == (law12_known (2 : Int) (4 : Int) (8 : Int)).In.Hi)))) (fun _ => by kernel_rfl) ?_
   exact WQ.keep [4, 5, 27] (by kernel_rfl) hM151
 have hx153 : (0 ≤ (law12_known (2 : Int) (4 : Int) (8 : Int)).Kind ∧ (law12_known (2 : Int) (4 : Int) (8 : Int)).Kind ≤ 255) ∧ (0 ≤ (law12_known (2 : Int) (4 : Int) (8 : Int)).In.Lo ∧ (law12_known (2 : Int) (4 : Int) (8 : Int)).In.Lo ≤ 18446744073709551615) ∧ (0 ≤ (law12_known (2 : Int) (4 : Int) (8 : Int)).In.Hi ∧ (law12_known (2 : Int) (4 : Int) (8 : Int)).In.Hi ≤ 18446744073709551615) := law12_known_ok (2 : Int) (4 : Int) (8 : Int) (by omega) (by omega) (by omega) 
 have hx154 : (0 ≤ (law12_known (1 : Int) (0 : Int) (70000 : Int)).Kind ∧ (law12_known (1 : Int) (0 : Int) (70000 : Int)).Kind ≤ 255) ∧ (0 ≤ (law12_known (1 : Int) (0 : Int) (70000 : Int)).In.Lo ∧ (law12_known (1 : Int) (0 : Int) (70000 : Int)).In.Lo ≤ 18446744073709551615) ∧ (0 ≤ (law12_known (1 : Int) (0 : Int) (70000 : Int)).In.Hi ∧ (law12_known (1 : Int) (0 : Int) (70000 : Int)).In.Hi ≤ 18446744073709551615) := law12_known_ok (1 : Int) (0 : Int) (70000 : Int) (by omega) (by omega) (by omega) 
 have hx155 : (0 ≤ (law12_known (4 : Int) (0 : Int) (0 : Int)).Kind ∧ (law12_known (4 : Int) (0 : Int) (0 : Int)).Kind ≤ 255) ∧ (0 ≤ (law12_known (4 : Int) (0 : Int) (0 : Int)).In.Lo ∧ (law12_known (4 : Int) (0 : Int) (0 : Int)).In.Lo ≤ 18446744073709551615) ∧ (0 ≤ (law12_known (4 : Int) (0 : Int) (0 : Int)).In.Hi ∧ (law12_known (4 : Int) (0 : Int) (0 : Int)).In.Hi ≤ 18446744073709551615) := law12_known_ok (4 : Int) (0 : Int) (0 : Int) (by omega) (by omega) (by omega) 
 have hx156 : (0 ≤ (law12_known (1 : Int) (0 : Int) (65535 : Int)).Kind ∧ (law12_known (1 : Int) (0 : Int) (65535 : Int)).Kind ≤ 255) ∧ (0 ≤ (law12_known (1 : Int) (0 : Int) (65535 : Int)).In.Lo ∧ (law12_known (1 : Int) (0 : Int) (65535 : Int)).In.Lo ≤ 18446744073709551615) ∧ (0 ≤ (law12_known (1 : Int) (0 : Int) (65535 : Int)).In.Hi ∧ (law12_known (1 : Int) (0 : Int) (65535 : Int)).In.Hi ≤ 18446744073709551615) := law12_known_ok (1 : Int) (0 : Int) (65535 : Int) (by omega) (by omega) (by omega) 
 refine WQ.val (dst := some 28) (.bool ((x21.2 == (0 : Int)) && ((x21.1.Kind == (law12_known (2 : Int) (4 : Int) (8 : Int)).Kind) && ((x21.1.In.Lo == (law12_known (2 : Int) (4 : Int) (8 : Int)).In.Lo) && (x21.1.In.Hi == (law12_known (2 : Int) (4 : Int) (8 : Int)).In.Hi))))) (fun _ => by kernel_rfl) ?_
 refine WQ.merge 11 [(5, pt g128 0), (31, .bool (((x21.2 == (0 : Int)) && ((x21.1.Kind == (law12_known (2 : Int) (4 : Int) (8 : Int)).Kind) && ((x21.1.In.Lo == (law12_known (2 : Int) (4 : Int) (8 : Int)).In.Lo) && (x21.1.In.Hi == (law12_known (2 : Int) (4 : Int) (8 : Int)).In.Hi)))) && (x66.2 == (113 : Int))))] (fun Q' => ?_) ?_
 ·
  cases hg157 : ((x21.2 == (0 : Int)) && ((x21.1.Kind == (law12_known (2 : Int) (4 : Int) (8 : Int)).Kind) && ((x21.1.In.Lo == (law12_known (2 : Int) (4 : Int) (8 : Int)).In.Lo) && (x21.1.In.Hi == (law12_known (2 : Int) (4 : Int) (8 : Int)).In.Hi))))
  ·
   replace hg157 : (x21.2 ≠ (0 : Int)) ∨ ((x21.1.Kind ≠ (law12_known (2 : Int) (4 : Int) (8 : Int)).Kind) ∨ ((x21.1.In.Lo ≠ (law12_known (2 : Int) (4 : Int) (8 : Int)).In.Lo) ∨ (x21.1.In.Hi ≠ (law12_known (2 : Int) (4 : Int) (8 : Int)).In.Hi))) := (orMap (bAndF hg157) (fun h => (bEqF h)) (fun h => (orMap (bAndF h) (fun h => (bEqF h)) (fun h => (orMap (bAndF h) (fun h => (bEqF h)) (fun h => (bEqF h)))))))
   intro hM158
   refine WQ.pass1 (dst := some 29) (by kernel_rfl) ?_
   refine WQ.pass1 (dst := some 30) (by kernel_rfl) ?_
   refine WQ.val (dst := some 31) (.bool false) (fun _ => by kernel_rfl) ?_
   exact WQ.keep [5, 31] (by kernel_rfl) hM158
  ·
   replace hg157 : (x21.2 = (0 : Int)) ∧ ((x21.1.Kind = (law12_known (2 : Int) (4 : Int) (8 : Int)).Kind) ∧ ((x21.1.In.Lo = (law12_known (2 : Int) (4 : Int) (8 : Int)).In.Lo) ∧ (x21.1.In.Hi = (law12_known (2 : Int) (4 : Int) (8 : Int)).In.Hi))) := ⟨(bEqT (bAndT hg157).1), ⟨(bEqT (bAndT (bAndT hg157).2).1), ⟨(bEqT (bAndT (bAndT (bAndT hg157).2).2).1), (bEqT (bAndT (bAndT (bAndT hg157).2).2).2)⟩⟩⟩
   intro hM158
   refine WQ.val (dst := some 29) (.int .i64 x66.2) (fun _ => by kernel_rfl) ?_
   refine WQ.val (dst := some 30) (.bool (x66.2 == (113 : Int))) (fun _ => by kernel_rfl) ?_
   refine WQ.val (dst := some 31) (.bool (x66.2 == (113 : Int))) (fun _ => by kernel_rfl) ?_
   exact WQ.keep [5, 31] (by kernel_rfl) hM158
 have hx159 : (0 ≤ (law12_known (2 : Int) (4 : Int) (8 : Int)).Kind ∧ (law12_known (2 : Int) (4 : Int) (8 : Int)).Kind ≤ 255) ∧ (0 ≤ (law12_known (2 : Int) (4 : Int) (8 : Int)).In.Lo ∧ (law12_known (2 : Int) (4 : Int) (8 : Int)).In.Lo ≤ 18446744073709551615) ∧ (0 ≤ (law12_known (2 : Int) (4 : Int) (8 : Int)).In.Hi ∧ (law12_known (2 : Int) (4 : Int) (8 : Int)).In.Hi ≤ 18446744073709551615) := law12_known_ok (2 : Int) (4 : Int) (8 : Int) (by omega) (by omega) (by omega) 
 have hx160 : (0 ≤ (law12_known (1 : Int) (0 : Int) (70000 : Int)).Kind ∧ (law12_known (1 : Int) (0 : Int) (70000 : Int)).Kind ≤ 255) ∧ (0 ≤ (law12_known (1 : Int) (0 : Int) (70000 : Int)).In.Lo ∧ (law12_known (1 : Int) (0 : Int) (70000 : Int)).In.Lo ≤ 18446744073709551615) ∧ (0 ≤ (law12_known (1 : Int) (0 : Int) (70000 : Int)).In.Hi ∧ (law12_known (1 : Int) (0 : Int) (70000 : Int)).In.Hi ≤ 18446744073709551615) := law12_known_ok (1 : Int) (0 : Int) (70000 : Int) (by omega) (by omega) (by omega) 
 have hx161 : (0 ≤ (law12_known (4 : Int) (0 : Int) (0 : Int)).Kind ∧ (law12_known (4 : Int) (0 : Int) (0 : Int)).Kind ≤ 255) ∧ (0 ≤ (law12_known (4 : Int) (0 : Int) (0 : Int)).In.Lo ∧ (law12_known (4 : Int) (0 : Int) (0 : Int)).In.Lo ≤ 18446744073709551615) ∧ (0 ≤ (law12_known (4 : Int) (0 : Int) (0 : Int)).In.Hi ∧ (law12_known (4 : Int) (0 : Int) (0 : Int)).In.Hi ≤ 18446744073709551615) := law12_known_ok (4 : Int) (0 : Int) (0 : Int) (by omega) (by omega) (by omega) 
 have hx162 : (0 ≤ (law12_known (1 : Int) (0 : Int) (65535 : Int)).Kind ∧ (law12_known (1 : Int) (0 : Int) (65535 : Int)).Kind ≤ 255) ∧ (0 ≤ (law12_known (1 : Int) (0 : Int) (65535 : Int)).In.Lo ∧ (law12_known (1 : Int) (0 : Int) (65535 : Int)).In.Lo ≤ 18446744073709551615) ∧ (0 ≤ (law12_known (1 : Int) (0 : Int) (65535 : Int)).In.Hi ∧ (law12_known (1 : Int) (0 : Int) (65535 : Int)).In.Hi ≤ 18446744073709551615) := law12_known_ok (1 : Int) (0 : Int) (65535 : Int) (by omega) (by omega) (by omega) 
 refine WQ.val (dst := some 32) (.bool (((x21.2 == (0 : Int)) && ((x21.1.Kind == (law12_known (2 : Int) (4 : Int) (8 : Int)).Kind) && ((x21.1.In.Lo == (law12_known (2 : Int) (4 : Int) (8 : Int)).In.Lo) && (x21.1.In.Hi == (law12_known (2 : Int) (4 : Int) (8 : Int)).In.Hi)))) && (x66.2 == (113 : Int)))) (fun _ => by kernel_rfl) ?_
 refine WQ.merge 16 [(36, .bool ((((x21.2 == (0 : Int)) && ((x21.1.Kind == (law12_known (2 : Int) (4 : Int) (8 : Int)).Kind) && ((x21.1.In.Lo == (law12_known (2 : Int) (4 : Int) (8 : Int)).In.Lo) && (x21.1.In.Hi == (law12_known (2 : Int) (4 : Int) (8 : Int)).In.Hi)))) && (x66.2 == (113 : Int))) && ((x117.Kind == (law12_known (1 : Int) (0 : Int) (70000 : Int)).Kind) && ((x117.In.Lo == (law12_known (1 : Int) (0 : Int) (70000 : Int)).In.Lo) && (x117.In.Hi == (law12_known (1 : Int) (0 : Int) (70000 : Int)).In.Hi)))))] (fun Q' => ?_) ?_
 ·
  cases hg163 : (((x21.2 == (0 : Int)) && ((x21.1.Kind == (law12_known (2 : Int) (4 : Int) (8 : Int)).Kind) && ((x21.1.In.Lo == (law12_known (2 : Int) (4 : Int) (8 : Int)).In.Lo) && (x21.1.In.Hi == (law12_known (2 : Int) (4 : Int) (8 : Int)).In.Hi)))) && (x66.2 == (113 : Int)))
  ·
   replace hg163 : ((x21.2 ≠ (0 : Int)) ∨ ((x21.1.Kind ≠ (law12_known (2 : Int) (4 : Int) (8 : Int)).Kind) ∨ ((x21.1.In.Lo ≠ (law12_known (2 : Int) (4 : Int) (8 : Int)).In.Lo) ∨ (x21.1.In.Hi ≠ (law12_known (2 : Int) (4 : Int) (8 : Int)).In.Hi)))) ∨ (x66.2 ≠ (113 : Int)) := (orMap (bAndF hg163) (fun h => (orMap (bAndF h) (fun h => (bEqF h)) (fun h => (orMap (bAndF h) (fun h => (bEqF h)) (fun h => (orMap (bAndF h) (fun h => (bEqF h)) (fun h => (bEqF h)))))))) (fun h => (bEqF h)))
   intro hM164
   refine WQ.pass1 (dst := some 33) (by kernel_rfl) ?_
   refine WQ.pass1 (dst := some 34) (by kernel_rfl) ?_
   refine WQ.pass1 (dst := some 35) (by kernel_rfl) ?_
   refine WQ.val (dst := some 36) (.bool false) (fun _ => by kernel_rfl) ?_
   exact WQ.keep [36] (by kernel_rfl) hM164
  ·
   replace hg163 : ((x21.2 = (0 : Int)) ∧ ((x21.1.Kind = (law12_known (2 : Int) (4 : Int) (8 : Int)).Kind) ∧ ((x21.1.In.Lo = (law12_known (2 : Int) (4 : Int) (8 : Int)).In.Lo) ∧ (x21.1.In.Hi = (law12_known (2 : Int) (4 : Int) (8 : Int)).In.Hi)))) ∧ (x66.2 = (113 : Int)) := ⟨⟨(bEqT (bAndT (bAndT hg163).1).1), ⟨(bEqT (bAndT (bAndT (bAndT hg163).1).2).1), ⟨(bEqT (bAndT (bAndT (bAndT (bAndT hg163).1).2).2).1), (bEqT (bAndT (bAndT (bAndT (bAndT hg163).1).2).2).2)⟩⟩⟩, (bEqT (bAndT hg163).2)⟩
   intro hM164
   refine WQ.load (dst := some 33) (t := 56) (o := 0) (fun _ hq => hb143.pure hq) (by kernel_rfl) (.agg #[.int .u8 x117.Kind, .int .u64 x117.In.Lo, .int .u64 x117.In.Hi]) (by kernel_rfl) ?_
   have hx165 : (0 ≤ (law12_known (1 : Int) (0 : Int) (70000 : Int)).Kind ∧ (law12_known (1 : Int) (0 : Int) (70000 : Int)).Kind ≤ 255) ∧ (0 ≤ (law12_known (1 : Int) (0 : Int) (70000 : Int)).In.Lo ∧ (law12_known (1 : Int) (0 : Int) (70000 : Int)).In.Lo ≤ 18446744073709551615) ∧ (0 ≤ (law12_known (1 : Int) (0 : Int) (70000 : Int)).In.Hi ∧ (law12_known (1 : Int) (0 : Int) (70000 : Int)).In.Hi ≤ 18446744073709551615) := law12_known_ok (1 : Int) (0 : Int) (70000 : Int) (by omega) (by omega) (by omega) 
   refine WQ.call (dst := some 34) (.agg #[.int .u8 (law12_known (1 : Int) (0 : Int) (70000 : Int)).Kind, .int .u64 (law12_known (1 : Int) (0 : Int) (70000 : Int)).In.Lo, .int .u64 (law12_known (1 : Int) (0 : Int) (70000 : Int)).In.Hi]) (fun _ => by kernel_rfl) (fun _ _ h h' => h.pure h') (fun wq hq => law12_known_any (1 : Int) (0 : Int) (70000 : Int) wq  (by omega) (by omega) (by omega) ) ?_
   refine WQ.val (dst := some 35) (.bool ((x117.Kind == (law12_known (1 : Int) (0 : Int) (70000 : Int)).Kind) && ((x117.In.Lo == (law12_known (1 : Int) (0 : Int) (70000 : Int)).In.Lo) && (x117.In.Hi == (law12_known (1 : Int) (0 : Int) (70000 : Int)).In.Hi)))) (run_eqS (t := 56) (xs := #[.int .u8 x117.Kind, .int .u64 x117.In.Lo, .int .u64 x117.In.Hi]) (ys := #[.int .u8 (law12_known (1 : Int) (0 : Int) (70000 : Int)).Kind, .int .u64 (law12_known (1 : Int) (0 : Int) (70000 : Int)).In.Lo, .int .u64 (law12_known (1 : Int) (0 : Int) (70000 : Int)).In.Hi]) (neg := false) (b := ((x117.Kind == (law12_known (1 : Int) (0 : Int) (70000 : Int)).Kind) && ((x117.In.Lo == (law12_known (1 : Int) (0 : Int) (70000 : Int)).In.Lo) && (x117.In.Hi == (law12_known (1 : Int) (0 : Int) (70000 : Int)).In.Hi)))) (by kernel_rfl) (by kernel_rfl) (by kernel_rfl)) ?_
   refine WQ.val (dst := some 36) (.bool ((x117.Kind == (law12_known (1 : Int) (0 : Int) (70000 : Int)).Kind) && ((x117.In.Lo == (law12_known (1 : Int) (0 : Int) (70000 : Int)).In.Lo) && (x117.In.Hi == (law12_known (1 : Int) (0 : Int) (70000 : Int)).In.Hi)))) (fun _ => by kernel_rfl) ?_
   exact WQ.keep [36] (by kernel_rfl) hM164
 have hx166 : (0 ≤ (law12_known (2 : Int) (4 : Int) (8 : Int)).Kind ∧ (law12_known (2 : Int) (4 : Int) (8 : Int)).Kind ≤ 255) ∧ (0 ≤ (law12_known (2 : Int) (4 : Int) (8 : Int)).In.Lo ∧ (law12_known (2 : Int) (4 : Int) (8 : Int)).In.Lo ≤ 18446744073709551615) ∧ (0 ≤ (law12_known (2 : Int) (4 : Int) (8 : Int)).In.Hi ∧ (law12_known (2 : Int) (4 : Int) (8 : Int)).In.Hi ≤ 18446744073709551615) := law12_known_ok (2 : Int) (4 : Int) (8 : Int) (by omega) (by omega) (by omega) 
 have hx167 : (0 ≤ (law12_known (1 : Int) (0 : Int) (70000 : Int)).Kind ∧ (law12_known (1 : Int) (0 : Int) (70000 : Int)).Kind ≤ 255) ∧ (0 ≤ (law12_known (1 : Int) (0 : Int) (70000 : Int)).In.Lo ∧ (law12_known (1 : Int) (0 : Int) (70000 : Int)).In.Lo ≤ 18446744073709551615) ∧ (0 ≤ (law12_known (1 : Int) (0 : Int) (70000 : Int)).In.Hi ∧ (law12_known (1 : Int) (0 : Int) (70000 : Int)).In.Hi ≤ 18446744073709551615) := law12_known_ok (1 : Int) (0 : Int) (70000 : Int) (by omega) (by omega) (by omega) 
 have hx168 : (0 ≤ (law12_known (4 : Int) (0 : Int) (0 : Int)).Kind ∧ (law12_known (4 : Int) (0 : Int) (0 : Int)).Kind ≤ 255) ∧ (0 ≤ (law12_known (4 : Int) (0 : Int) (0 : Int)).In.Lo ∧ (law12_known (4 : Int) (0 : Int) (0 : Int)).In.Lo ≤ 18446744073709551615) ∧ (0 ≤ (law12_known (4 : Int) (0 : Int) (0 : Int)).In.Hi ∧ (law12_known (4 : Int) (0 : Int) (0 : Int)).In.Hi ≤ 18446744073709551615) := law12_known_ok (4 : Int) (0 : Int) (0 : Int) (by omega) (by omega) (by omega) 
 have hx169 : (0 ≤ (law12_known (1 : Int) (0 : Int) (65535 : Int)).Kind ∧ (law12_known (1 : Int) (0 : Int) (65535 : Int)).Kind ≤ 255) ∧ (0 ≤ (law12_known (1 : Int) (0 : Int) (65535 : Int)).In.Lo ∧ (law12_known (1 : Int) (0 : Int) (65535 : Int)).In.Lo ≤ 18446744073709551615) ∧ (0 ≤ (law12_known (1 : Int) (0 : Int) (65535 : Int)).In.Hi ∧ (law12_known (1 : Int) (0 : Int) (65535 : Int)).In.Hi ≤ 18446744073709551615) := law12_known_ok (1 : Int) (0 : Int) (65535 : Int) (by omega) (by omega) (by omega) 
 refine WQ.val (dst := some 37) (.bool ((((x21.2 == (0 : Int)) && ((x21.1.Kind == (law12_known (2 : Int) (4 : Int) (8 : Int)).Kind) && ((x21.1.In.Lo == (law12_known (2 : Int) (4 : Int) (8 : Int)).In.Lo) && (x21.1.In.Hi == (law12_known (2 : Int) (4 : Int) (8 : Int)).In.Hi)))) && (x66.2 == (113 : Int))) && ((x117.Kind == (law12_known (1 : Int) (0 : Int) (70000 : Int)).Kind) && ((x117.In.Lo == (law12_known (1 : Int) (0 : Int) (70000 : Int)).In.Lo) && (x117.In.Hi == (law12_known (1 : Int) (0 : Int) (70000 : Int)).In.Hi))))) (fun _ => by kernel_rfl) ?_
 refine WQ.merge 21 [(41, .bool (((((x21.2 == (0 : Int)) && ((x21.1.Kind == (law12_known (2 : Int) (4 : Int) (8 : Int)).Kind) && ((x21.1.In.Lo == (law12_known (2 : Int) (4 : Int) (8 : Int)).In.Lo) && (x21.1.In.Hi == (law12_known (2 : Int) (4 : Int) (8 : Int)).In.Hi)))) && (x66.2 == (113 : Int))) && ((x117.Kind == (law12_known (1 : Int) (0 : Int) (70000 : Int)).Kind) && ((x117.In.Lo == (law12_known (1 : Int) (0 : Int) (70000 : Int)).In.Lo) && (x117.In.Hi == (law12_known (1 : Int) (0 : Int) (70000 : Int)).In.Hi)))) && (kind_Within (law12_known (4 : Int) (0 : Int) (0 : Int)) (law12_known (1 : Int) (0 : Int) (65535 : Int)))))] (fun Q' => ?_) ?_
 ·
  cases hg170 : ((((x21.2 == (0 : Int)) && ((x21.1.Kind == (law12_known (2 : Int) (4 : Int) (8 : Int)).Kind) && ((x21.1.In.Lo == (law12_known (2 : Int) (4 : Int) (8 : Int)).In.Lo) && (x21.1.In.Hi == (law12_known (2 : Int) (4 : Int) (8 : Int)).In.Hi)))) && (x66.2 == (113 : Int))) && ((x117.Kind == (law12_known (1 : Int) (0 : Int) (70000 : Int)).Kind) && ((x117.In.Lo == (law12_known (1 : Int) (0 : Int) (70000 : Int)).In.Lo) && (x117.In.Hi == (law12_known (1 : Int) (0 : Int) (70000 : Int)).In.Hi))))
  ·
   replace hg170 : (((x21.2 ≠ (0 : Int)) ∨ ((x21.1.Kind ≠ (law12_known (2 : Int) (4 : Int) (8 : Int)).Kind) ∨ ((x21.1.In.Lo ≠ (law12_known (2 : Int) (4 : Int) (8 : Int)).In.Lo) ∨ (x21.1.In.Hi ≠ (law12_known (2 : Int) (4 : Int) (8 : Int)).In.Hi)))) ∨ (x66.2 ≠ (113 : Int))) ∨ ((x117.Kind ≠ (law12_known (1 : Int) (0 : Int) (70000 : Int)).Kind) ∨ ((x117.In.Lo ≠ (law12_known (1 : Int) (0 : Int) (70000 : Int)).In.Lo) ∨ (x117.In.Hi ≠ (law12_known (1 : Int) (0 : Int) (70000 : Int)).In.Hi))) := (orMap (bAndF hg170) (fun h => (orMap (bAndF h) (fun h => (orMap (bAndF h) (fun h => (bEqF h)) (fun h => (orMap (bAndF h) (fun h => (bEqF h)) (fun h => (orMap (bAndF h) (fun h => (bEqF h)) (fun h => (bEqF h)))))))) (fun h => (bEqF h)))) (fun h => (orMap (bAndF h) (fun h => (bEqF h)) (fun h => (orMap (bAndF h) (fun h => (bEqF h)) (fun h => (bEqF h)))))))
   intro hM171
   refine WQ.pass1 (dst := some 38) (by kernel_rfl) ?_
   refine WQ.pass1 (dst := some 39) (by kernel_rfl) ?_
   refine WQ.pass1 (dst := some 40) (by kernel_rfl) ?_
   refine WQ.val (dst := some 41) (.bool false) (fun _ => by kernel_rfl) ?_
   exact WQ.keep [41] (by kernel_rfl) hM171
  ·
   replace hg170 : (((x21.2 = (0 : Int)) ∧ ((x21.1.Kind = (law12_known (2 : Int) (4 : Int) (8 : Int)).Kind) ∧ ((x21.1.In.Lo = (law12_known (2 : Int) (4 : Int) (8 : Int)).In.Lo) ∧ (x21.1.In.Hi = (law12_known (2 : Int) (4 : Int) (8 : Int)).In.Hi)))) ∧ (x66.2 = (113 : Int))) ∧ ((x117.Kind = (law12_known (1 : Int) (0 : Int) (70000 : Int)).Kind) ∧ ((x117.In.Lo = (law12_known (1 : Int) (0 : Int) (70000 : Int)).In.Lo) ∧ (x117.In.Hi = (law12_known (1 : Int) (0 : Int) (70000 : Int)).In.Hi))) := ⟨⟨⟨(bEqT (bAndT (bAndT (bAndT hg170).1).1).1), ⟨(bEqT (bAndT (bAndT (bAndT (bAndT hg170).1).1).2).1), ⟨(bEqT (bAndT (bAndT (bAndT (bAndT (bAndT hg170).1).1).2).2).1), (bEqT (bAndT (bAndT (bAndT (bAndT (bAndT hg170).1).1).2).2).2)⟩⟩⟩, (bEqT (bAndT (bAndT hg170).1).2)⟩, ⟨(bEqT (bAndT (bAndT hg170).2).1), ⟨(bEqT (bAndT (bAndT (bAndT hg170).2).2).1), (bEqT (bAndT (bAndT (bAndT hg170).2).2).2)⟩⟩⟩
   intro hM171
   have hx172 : (0 ≤ (law12_known (4 : Int) (0 : Int) (0 : Int)).Kind ∧ (law12_known (4 : Int) (0 : Int) (0 : Int)).Kind ≤ 255) ∧ (0 ≤ (law12_known (4 : Int) (0 : Int) (0 : Int)).In.Lo ∧ (law12_known (4 : Int) (0 : Int) (0 : Int)).In.Lo ≤ 18446744073709551615) ∧ (0 ≤ (law12_known (4 : Int) (0 : Int) (0 : Int)).In.Hi ∧ (law12_known (4 : Int) (0 : Int) (0 : Int)).In.Hi ≤ 18446744073709551615) := law12_known_ok (4 : Int) (0 : Int) (0 : Int) (by omega) (by omega) (by omega) 
   refine WQ.call (dst := some 38) (.agg #[.int .u8 (law12_known (4 : Int) (0 : Int) (0 : Int)).Kind, .int .u64 (law12_known (4 : Int) (0 : Int) (0 : Int)).In.Lo, .int .u64 (law12_known (4 : Int) (0 : Int) (0 : Int)).In.Hi]) (fun _ => by kernel_rfl) (fun _ _ h h' => h.pure h') (fun wq hq => law12_known_any (4 : Int) (0 : Int) (0 : Int) wq  (by omega) (by omega) (by omega) ) ?_
   have hx173 : (0 ≤ (law12_known (1 : Int) (0 : Int) (65535 : Int)).Kind ∧ (law12_known (1 : Int) (0 : Int) (65535 : Int)).Kind ≤ 255) ∧ (0 ≤ (law12_known (1 : Int) (0 : Int) (65535 : Int)).In.Lo ∧ (law12_known (1 : Int) (0 : Int) (65535 : Int)).In.Lo ≤ 18446744073709551615) ∧ (0 ≤ (law12_known (1 : Int) (0 : Int) (65535 : Int)).In.Hi ∧ (law12_known (1 : Int) (0 : Int) (65535 : Int)).In.Hi ≤ 18446744073709551615) := law12_known_ok (1 : Int) (0 : Int) (65535 : Int) (by omega) (by omega) (by omega) 
   refine WQ.call (dst := some 39) (.agg #[.int .u8 (law12_known (1 : Int) (0 : Int) (65535 : Int)).Kind, .int .u64 (law12_known (1 : Int) (0 : Int) (65535 : Int)).In.Lo, .int .u64 (law12_known (1 : Int) (0 : Int) (65535 : Int)).In.Hi]) (fun _ => by kernel_rfl) (fun _ _ h h' => h.pure h') (fun wq hq => law12_known_any (1 : Int) (0 : Int) (65535 : Int) wq  (by omega) (by omega) (by omega) ) ?_
   refine WQ.call (dst := some 40) (.bool (kind_Within (law12_known (4 : Int) (0 : Int) (0 : Int)) (law12_known (1 : Int) (0 : Int) (65535 : Int)))) (fun _ => by kernel_rfl) (fun _ _ h h' => h.pure h') (fun wq hq => kind_Within_any (law12_known (4 : Int) (0 : Int) (0 : Int)) (law12_known (1 : Int) (0 : Int) (65535 : Int)) wq  ⟨(by omega), (by omega), (by omega)⟩ ⟨(by omega), (by omega), (by omega)⟩ ) ?_
   refine WQ.val (dst := some 41) (.bool (kind_Within (law12_known (4 : Int) (0 : Int) (0 : Int)) (law12_known (1 : Int) (0 : Int) (65535 : Int)))) (fun _ => by kernel_rfl) ?_
   exact WQ.keep [41] (by kernel_rfl) hM171
 have hx174 : (0 ≤ (law12_known (2 : Int) (4 : Int) (8 : Int)).Kind ∧ (law12_known (2 : Int) (4 : Int) (8 : Int)).Kind ≤ 255) ∧ (0 ≤ (law12_known (2 : Int) (4 : Int) (8 : Int)).In.Lo ∧ (law12_known (2 : Int) (4 : Int) (8 : Int)).In.Lo ≤ 18446744073709551615) ∧ (0 ≤ (law12_known (2 : Int) (4 : Int) (8 : Int)).In.Hi ∧ (law12_known (2 : Int) (4 : Int) (8 : Int)).In.Hi ≤ 18446744073709551615) := law12_known_ok (2 : Int) (4 : Int) (8 : Int) (by omega) (by omega) (by omega) 
 have hx175 : (0 ≤ (law12_known (1 : Int) (0 : Int) (70000 : Int)).Kind ∧ (law12_known (1 : Int) (0 : Int) (70000 : Int)).Kind ≤ 255) ∧ (0 ≤ (law12_known (1 : Int) (0 : Int) (70000 : Int)).In.Lo ∧ (law12_known (1 : Int) (0 : Int) (70000 : Int)).In.Lo ≤ 18446744073709551615) ∧ (0 ≤ (law12_known (1 : Int) (0 : Int) (70000 : Int)).In.Hi ∧ (law12_known (1 : Int) (0 : Int) (70000 : Int)).In.Hi ≤ 18446744073709551615) := law12_known_ok (1 : Int) (0 : Int) (70000 : Int) (by omega) (by omega) (by omega) 
 have hx176 : (0 ≤ (law12_known (4 : Int) (0 : Int) (0 : Int)).Kind ∧ (law12_known (4 : Int) (0 : Int) (0 : Int)).Kind ≤ 255) ∧ (0 ≤ (law12_known (4 : Int) (0 : Int) (0 : Int)).In.Lo ∧ (law12_known (4 : Int) (0 : Int) (0 : Int)).In.Lo ≤ 18446744073709551615) ∧ (0 ≤ (law12_known (4 : Int) (0 : Int) (0 : Int)).In.Hi ∧ (law12_known (4 : Int) (0 : Int) (0 : Int)).In.Hi ≤ 18446744073709551615) := law12_known_ok (4 : Int) (0 : Int) (0 : Int) (by omega) (by omega) (by omega) 
 have hx177 : (0 ≤ (law12_known (1 : Int) (0 : Int) (65535 : Int)).Kind ∧ (law12_known (1 : Int) (0 : Int) (65535 : Int)).Kind ≤ 255) ∧ (0 ≤ (law12_known (1 : Int) (0 : Int) (65535 : Int)).In.Lo ∧ (law12_known (1 : Int) (0 : Int) (65535 : Int)).In.Lo ≤ 18446744073709551615) ∧ (0 ≤ (law12_known (1 : Int) (0 : Int) (65535 : Int)).In.Hi ∧ (law12_known (1 : Int) (0 : Int) (65535 : Int)).In.Hi ≤ 18446744073709551615) := law12_known_ok (1 : Int) (0 : Int) (65535 : Int) (by omega) (by omega) (by omega) 
 refine WQ.val (dst := some 0) (.bool (((((x21.2 == (0 : Int)) && ((x21.1.Kind == (law12_known (2 : Int) (4 : Int) (8 : Int)).Kind) && ((x21.1.In.Lo == (law12_known (2 : Int) (4 : Int) (8 : Int)).In.Lo) && (x21.1.In.Hi == (law12_known (2 : Int) (4 : Int) (8 : Int)).In.Hi)))) && (x66.2 == (113 : Int))) && ((x117.Kind == (law12_known (1 : Int) (0 : Int) (70000 : Int)).Kind) && ((x117.In.Lo == (law12_known (1 : Int) (0 : Int) (70000 : Int)).In.Lo) && (x117.In.Hi == (law12_known (1 : Int) (0 : Int) (70000 : Int)).In.Hi)))) && (kind_Within (law12_known (4 : Int) (0 : Int) (0 : Int)) (law12_known (1 : Int) (0 : Int) (65535 : Int))))) (fun _ => by kernel_rfl) ?_
 refine WQ.fin (by kernel_rfl) ?_
 intro w178 hc179
 have hz181 := hc179.size
 have hC180 := hC145.pure hc179
 have hb182 := hb147.pure hc179
 have hb183 := hb148.pure hc179
 have hb184 := hb143.pure hc179
 refine go hK149 ?_
 refine CW.ret ?_
 exact retV (.bool (((((x21.2 == (0 : Int)) && ((x21.1.Kind == (law12_known (2 : Int) (4 : Int) (8 : Int)).Kind) && ((x21.1.In.Lo == (law12_known (2 : Int) (4 : Int) (8 : Int)).In.Lo) && (x21.1.In.Hi == (law12_known (2 : Int) (4 : Int) (8 : Int)).In.Hi)))) && (x66.2 == (113 : Int))) && ((x117.Kind == (law12_known (1 : Int) (0 : Int) (70000 : Int)).Kind) && ((x117.In.Lo == (law12_known (1 : Int) (0 : Int) (70000 : Int)).In.Lo) && (x117.In.Hi == (law12_known (1 : Int) (0 : Int) (70000 : Int)).In.Hi)))) && (kind_Within (law12_known (4 : Int) (0 : Int) (0 : Int)) (law12_known (1 : Int) (0 : Int) (65535 : Int))))) (by kernel_rfl) (⟨hC180, (congrArg (fun r : Bool => (.bool r : Value)) hs120).symm⟩)

def law12_made (a0 : Int) (a1 : Bool) (a2 : Int) (a3 : Int) (a4 : Int) (a5 : Int)  : (Int × Int × Bool) := (if ((a0 == (12 : Int)) && (!a1)) then (a4, a5, (a4 != (0 : Int))) else (if (a0 == (12 : Int)) then (if (a0 == (13 : Int)) then (if (a4 == (1 : Int)) then (letF (alu_Do a0 a1 a3 a5) fun x23 => ((1 : Int), x23.1, (x23.2 == (0 : Int)))) else (if (((a4 == (0 : Int)) || a1) || ((a0 != (1 : Int)) && (a0 != (2 : Int)))) then ((0 : Int), (0 : Int), false) else (letF (alu_Do a0 false a3 a5) fun x47 => (a4, x47.1, (x47.2 == (0 : Int)))))) else (if (a4 != (1 : Int)) then ((0 : Int), (0 : Int), false) else (if (a4 == (1 : Int)) then (letF (alu_Do a0 a1 a3 a5) fun x69 => ((1 : Int), x69.1, (x69.2 == (0 : Int)))) else (if (((a4 == (0 : Int)) || a1) || ((a0 != (1 : Int)) && (a0 != (2 : Int)))) then ((0 : Int), (0 : Int), false) else (letF (alu_Do a0 false a3 a5) fun x93 => (a4, x93.1, (x93.2 == (0 : Int)))))))) else (if (a0 == (13 : Int)) then (if (a2 == (1 : Int)) then (letF (alu_Do a0 a1 a3 a5) fun x115 => ((1 : Int), x115.1, (x115.2 == (0 : Int)))) else (if (((a2 == (0 : Int)) || a1) || ((a0 != (1 : Int)) && (a0 != (2 : Int)))) then ((0 : Int), (0 : Int), false) else (letF (alu_Do a0 false a3 a5) fun x139 => (a2, x139.1, (x139.2 == (0 : Int)))))) else (if (a4 != (1 : Int)) then ((0 : Int), (0 : Int), false) else (if (a2 == (1 : Int)) then (letF (alu_Do a0 a1 a3 a5) fun x161 => ((1 : Int), x161.1, (x161.2 == (0 : Int)))) else (if (((a2 == (0 : Int)) || a1) || ((a0 != (1 : Int)) && (a0 != (2 : Int)))) then ((0 : Int), (0 : Int), false) else (letF (alu_Do a0 false a3 a5) fun x185 => (a2, x185.1, (x185.2 == (0 : Int))))))))))

theorem law12_made_ok (a0 : Int) (a1 : Bool) (a2 : Int) (a3 : Int) (a4 : Int) (a5 : Int)  (_h_a0 : (0 ≤ a0 ∧ a0 ≤ 255)) (_h_a2 : (0 ≤ a2 ∧ a2 ≤ 255)) (_h_a3 : (0 ≤ a3 ∧ a3 ≤ 18446744073709551615)) (_h_a4 : (0 ≤ a4 ∧ a4 ≤ 255)) (_h_a5 : (0 ≤ a5 ∧ a5 ≤ 18446744073709551615))  : (0 ≤ (law12_made a0 a1 a2 a3 a4 a5).1 ∧ (law12_made a0 a1 a2 a3 a4 a5).1 ≤ 255) ∧ (0 ≤ (law12_made a0 a1 a2 a3 a4 a5).2.1 ∧ (law12_made a0 a1 a2 a3 a4 a5).2.1 ≤ 18446744073709551615) := by
 rw [law12_made.eq_1]
 refine iteR (p := fun r : (Int × Int × Bool) => (0 ≤ r.1 ∧ r.1 ≤ 255) ∧ (0 ≤ r.2.1 ∧ r.2.1 ≤ 18446744073709551615)) (fun hi1001 => ?_) (fun hi1001 => ?_)
 ·
  replace hi1001 : (a0 = (12 : Int)) ∧ (a1 = false) := ⟨(bEqT (bAndT hi1001).1), (bNotT (bAndT hi1001).2)⟩
  exact (by exact (show (0 ≤ a4 ∧ a4 ≤ 255) ∧ (0 ≤ a5 ∧ a5 ≤ 18446744073709551615) from ⟨(by omega), (by omega)⟩))
 replace hi1001 : (a0 ≠ (12 : Int)) ∨ (a1 = true) := (orMap (bAndF hi1001) (fun h => (bEqF h)) (fun h => (bNotF h)))
 refine iteR (p := fun r : (Int × Int × Bool) => (0 ≤ r.1 ∧ r.1 ≤ 255) ∧ (0 ≤ r.2.1 ∧ r.2.1 ≤ 18446744073709551615)) (fun hi1002 => ?_) (fun hi1002 => ?_)
 ·
  replace hi1002 : a0 = (12 : Int) := (bEqT hi1002)
  refine iteR (p := fun r : (Int × Int × Bool) => (0 ≤ r.1 ∧ r.1 ≤ 255) ∧ (0 ≤ r.2.1 ∧ r.2.1 ≤ 18446744073709551615)) (fun hi1003 => ?_) (fun hi1003 => ?_)
  ·
   replace hi1003 : a0 = (13 : Int) := (bEqT hi1003)
   refine iteR (p := fun r : (Int × Int × Bool) => (0 ≤ r.1 ∧ r.1 ≤ 255) ∧ (0 ≤ r.2.1 ∧ r.2.1 ≤ 18446744073709551615)) (fun hi1004 => ?_) (fun hi1004 => ?_)
   ·
    replace hi1004 : a4 = (1 : Int) := (bEqT hi1004)
    refine letR (p := fun r : (Int × Int × Bool) => (0 ≤ r.1 ∧ r.1 ≤ 255) ∧ (0 ≤ r.2.1 ∧ r.2.1 ≤ 18446744073709551615)) fun x23 hx24 => ?_
    have hx25 : (0 ≤ x23.1 ∧ x23.1 ≤ 18446744073709551615) ∧ (-9223372036854775808 ≤ x23.2 ∧ x23.2 ≤ 9223372036854775807) := by rw [← hx24]; exact alu_Do_ok a0 a1 a3 a5 (by omega) (by omega) (by omega) 
    exact (by exact (show (0 ≤ (1 : Int) ∧ (1 : Int) ≤ 255) ∧ (0 ≤ x23.1 ∧ x23.1 ≤ 18446744073709551615) from ⟨(by omega), (by omega)⟩))
   replace hi1004 : a4 ≠ (1 : Int) := (bEqF hi1004)
   refine iteR (p := fun r : (Int × Int × Bool) => (0 ≤ r.1 ∧ r.1 ≤ 255) ∧ (0 ≤ r.2.1 ∧ r.2.1 ≤ 18446744073709551615)) (fun hi1005 => ?_) (fun hi1005 => ?_)
   ·
    replace hi1005 : ((a4 = (0 : Int)) ∨ (a1 = true)) ∨ ((a0 ≠ (1 : Int)) ∧ (a0 ≠ (2 : Int))) := (orMap (bOrT hi1005) (fun h => (orMap (bOrT h) (fun h => (bEqT h)) (fun h => h))) (fun h => ⟨(bNeT (bAndT h).1), (bNeT (bAndT h).2)⟩))
    exact (by exact (show (0 ≤ (0 : Int) ∧ (0 : Int) ≤ 255) ∧ (0 ≤ (0 : Int) ∧ (0 : Int) ≤ 18446744073709551615) from ⟨(by omega), (by omega)⟩))
   replace hi1005 : ((a4 ≠ (0 : Int)) ∧ (a1 = false)) ∧ ((a0 = (1 : Int)) ∨ (a0 = (2 : Int))) := ⟨⟨(bEqF (bOrF (bOrF hi1005).1).1), (bOrF (bOrF hi1005).1).2⟩, (orMap (bAndF (bOrF hi1005).2) (fun h => (bNeF h)) (fun h => (bNeF h)))⟩
   refine letR (p := fun r : (Int × Int × Bool) => (0 ≤ r.1 ∧ r.1 ≤ 255) ∧ (0 ≤ r.2.1 ∧ r.2.1 ≤ 18446744073709551615)) fun x47 hx48 => ?_
   have hx49 : (0 ≤ x47.1 ∧ x47.1 ≤ 18446744073709551615) ∧ (-9223372036854775808 ≤ x47.2 ∧ x47.2 ≤ 9223372036854775807) := by rw [← hx48]; exact alu_Do_ok a0 false a3 a5 (by omega) (by omega) (by omega) 
   exact (by exact (show (0 ≤ a4 ∧ a4 ≤ 255) ∧ (0 ≤ x47.1 ∧ x47.1 ≤ 18446744073709551615) from ⟨(by omega), (by omega)⟩))
  replace hi1003 : a0 ≠ (13 : Int) := (bEqF hi1003)
  refine iteR (p := fun r : (Int × Int × Bool) => (0 ≤ r.1 ∧ r.1 ≤ 255) ∧ (0 ≤ r.2.1 ∧ r.2.1 ≤ 18446744073709551615)) (fun hi1006 => ?_) (fun hi1006 => ?_)
  ·
   replace hi1006 : a4 ≠ (1 : Int) := (bNeT hi1006)
   exact (by exact (show (0 ≤ (0 : Int) ∧ (0 : Int) ≤ 255) ∧ (0 ≤ (0 : Int) ∧ (0 : Int) ≤ 18446744073709551615) from ⟨(by omega), (by omega)⟩))
  replace hi1006 : a4 = (1 : Int) := (bNeF hi1006)
  refine iteR (p := fun r : (Int × Int × Bool) => (0 ≤ r.1 ∧ r.1 ≤ 255) ∧ (0 ≤ r.2.1 ∧ r.2.1 ≤ 18446744073709551615)) (fun hi1007 => ?_) (fun hi1007 => ?_)
  ·
   replace hi1007 : a4 = (1 : Int) := (bEqT hi1007)
   refine letR (p := fun r : (Int × Int × Bool) => (0 ≤ r.1 ∧ r.1 ≤ 255) ∧ (0 ≤ r.2.1 ∧ r.2.1 ≤ 18446744073709551615)) fun x69 hx70 => ?_
   have hx71 : (0 ≤ x69.1 ∧ x69.1 ≤ 18446744073709551615) ∧ (-9223372036854775808 ≤ x69.2 ∧ x69.2 ≤ 9223372036854775807) := by rw [← hx70]; exact alu_Do_ok a0 a1 a3 a5 (by omega) (by omega) (by omega) 
   exact (by exact (show (0 ≤ (1 : Int) ∧ (1 : Int) ≤ 255) ∧ (0 ≤ x69.1 ∧ x69.1 ≤ 18446744073709551615) from ⟨(by omega), (by omega)⟩))
  replace hi1007 : a4 ≠ (1 : Int) := (bEqF hi1007)
  refine iteR (p := fun r : (Int × Int × Bool) => (0 ≤ r.1 ∧ r.1 ≤ 255) ∧ (0 ≤ r.2.1 ∧ r.2.1 ≤ 18446744073709551615)) (fun hi1008 => ?_) (fun hi1008 => ?_)
  ·
   replace hi1008 : ((a4 = (0 : Int)) ∨ (a1 = true)) ∨ ((a0 ≠ (1 : Int)) ∧ (a0 ≠ (2 : Int))) := (orMap (bOrT hi1008) (fun h => (orMap (bOrT h) (fun h => (bEqT h)) (fun h => h))) (fun h => ⟨(bNeT (bAndT h).1), (bNeT (bAndT h).2)⟩))
   exact (by exact (show (0 ≤ (0 : Int) ∧ (0 : Int) ≤ 255) ∧ (0 ≤ (0 : Int) ∧ (0 : Int) ≤ 18446744073709551615) from ⟨(by omega), (by omega)⟩))
  replace hi1008 : ((a4 ≠ (0 : Int)) ∧ (a1 = false)) ∧ ((a0 = (1 : Int)) ∨ (a0 = (2 : Int))) := ⟨⟨(bEqF (bOrF (bOrF hi1008).1).1), (bOrF (bOrF hi1008).1).2⟩, (orMap (bAndF (bOrF hi1008).2) (fun h => (bNeF h)) (fun h => (bNeF h)))⟩
  refine letR (p := fun r : (Int × Int × Bool) => (0 ≤ r.1 ∧ r.1 ≤ 255) ∧ (0 ≤ r.2.1 ∧ r.2.1 ≤ 18446744073709551615)) fun x93 hx94 => ?_
  have hx95 : (0 ≤ x93.1 ∧ x93.1 ≤ 18446744073709551615) ∧ (-9223372036854775808 ≤ x93.2 ∧ x93.2 ≤ 9223372036854775807) := by rw [← hx94]; exact alu_Do_ok a0 false a3 a5 (by omega) (by omega) (by omega) 
  exact (by exact (show (0 ≤ a4 ∧ a4 ≤ 255) ∧ (0 ≤ x93.1 ∧ x93.1 ≤ 18446744073709551615) from ⟨(by omega), (by omega)⟩))
 replace hi1002 : a0 ≠ (12 : Int) := (bEqF hi1002)
 refine iteR (p := fun r : (Int × Int × Bool) => (0 ≤ r.1 ∧ r.1 ≤ 255) ∧ (0 ≤ r.2.1 ∧ r.2.1 ≤ 18446744073709551615)) (fun hi1009 => ?_) (fun hi1009 => ?_)
 ·
  replace hi1009 : a0 = (13 : Int) := (bEqT hi1009)
  refine iteR (p := fun r : (Int × Int × Bool) => (0 ≤ r.1 ∧ r.1 ≤ 255) ∧ (0 ≤ r.2.1 ∧ r.2.1 ≤ 18446744073709551615)) (fun hi1010 => ?_) (fun hi1010 => ?_)
  ·
   replace hi1010 : a2 = (1 : Int) := (bEqT hi1010)
   refine letR (p := fun r : (Int × Int × Bool) => (0 ≤ r.1 ∧ r.1 ≤ 255) ∧ (0 ≤ r.2.1 ∧ r.2.1 ≤ 18446744073709551615)) fun x115 hx116 => ?_
   have hx117 : (0 ≤ x115.1 ∧ x115.1 ≤ 18446744073709551615) ∧ (-9223372036854775808 ≤ x115.2 ∧ x115.2 ≤ 9223372036854775807) := by rw [← hx116]; exact alu_Do_ok a0 a1 a3 a5 (by omega) (by omega) (by omega) 
   exact (by exact (show (0 ≤ (1 : Int) ∧ (1 : Int) ≤ 255) ∧ (0 ≤ x115.1 ∧ x115.1 ≤ 18446744073709551615) from ⟨(by omega), (by omega)⟩))
  replace hi1010 : a2 ≠ (1 : Int) := (bEqF hi1010)
  refine iteR (p := fun r : (Int × Int × Bool) => (0 ≤ r.1 ∧ r.1 ≤ 255) ∧ (0 ≤ r.2.1 ∧ r.2.1 ≤ 18446744073709551615)) (fun hi1011 => ?_) (fun hi1011 => ?_)
  ·
   replace hi1011 : ((a2 = (0 : Int)) ∨ (a1 = true)) ∨ ((a0 ≠ (1 : Int)) ∧ (a0 ≠ (2 : Int))) := (orMap (bOrT hi1011) (fun h => (orMap (bOrT h) (fun h => (bEqT h)) (fun h => h))) (fun h => ⟨(bNeT (bAndT h).1), (bNeT (bAndT h).2)⟩))
   exact (by exact (show (0 ≤ (0 : Int) ∧ (0 : Int) ≤ 255) ∧ (0 ≤ (0 : Int) ∧ (0 : Int) ≤ 18446744073709551615) from ⟨(by omega), (by omega)⟩))
  replace hi1011 : ((a2 ≠ (0 : Int)) ∧ (a1 = false)) ∧ ((a0 = (1 : Int)) ∨ (a0 = (2 : Int))) := ⟨⟨(bEqF (bOrF (bOrF hi1011).1).1), (bOrF (bOrF hi1011).1).2⟩, (orMap (bAndF (bOrF hi1011).2) (fun h => (bNeF h)) (fun h => (bNeF h)))⟩
  refine letR (p := fun r : (Int × Int × Bool) => (0 ≤ r.1 ∧ r.1 ≤ 255) ∧ (0 ≤ r.2.1 ∧ r.2.1 ≤ 18446744073709551615)) fun x139 hx140 => ?_
  have hx141 : (0 ≤ x139.1 ∧ x139.1 ≤ 18446744073709551615) ∧ (-9223372036854775808 ≤ x139.2 ∧ x139.2 ≤ 9223372036854775807) := by rw [← hx140]; exact alu_Do_ok a0 false a3 a5 (by omega) (by omega) (by omega) 
  exact (by exact (show (0 ≤ a2 ∧ a2 ≤ 255) ∧ (0 ≤ x139.1 ∧ x139.1 ≤ 18446744073709551615) from ⟨(by omega), (by omega)⟩))
 replace hi1009 : a0 ≠ (13 : Int) := (bEqF hi1009)
 refine iteR (p := fun r : (Int × Int × Bool) => (0 ≤ r.1 ∧ r.1 ≤ 255) ∧ (0 ≤ r.2.1 ∧ r.2.1 ≤ 18446744073709551615)) (fun hi1012 => ?_) (fun hi1012 => ?_)
 ·
  replace hi1012 : a4 ≠ (1 : Int) := (bNeT hi1012)
  exact (by exact (show (0 ≤ (0 : Int) ∧ (0 : Int) ≤ 255) ∧ (0 ≤ (0 : Int) ∧ (0 : Int) ≤ 18446744073709551615) from ⟨(by omega), (by omega)⟩))
 replace hi1012 : a4 = (1 : Int) := (bNeF hi1012)
 refine iteR (p := fun r : (Int × Int × Bool) => (0 ≤ r.1 ∧ r.1 ≤ 255) ∧ (0 ≤ r.2.1 ∧ r.2.1 ≤ 18446744073709551615)) (fun hi1013 => ?_) (fun hi1013 => ?_)
 ·
  replace hi1013 : a2 = (1 : Int) := (bEqT hi1013)
  refine letR (p := fun r : (Int × Int × Bool) => (0 ≤ r.1 ∧ r.1 ≤ 255) ∧ (0 ≤ r.2.1 ∧ r.2.1 ≤ 18446744073709551615)) fun x161 hx162 => ?_
  have hx163 : (0 ≤ x161.1 ∧ x161.1 ≤ 18446744073709551615) ∧ (-9223372036854775808 ≤ x161.2 ∧ x161.2 ≤ 9223372036854775807) := by rw [← hx162]; exact alu_Do_ok a0 a1 a3 a5 (by omega) (by omega) (by omega) 
  exact (by exact (show (0 ≤ (1 : Int) ∧ (1 : Int) ≤ 255) ∧ (0 ≤ x161.1 ∧ x161.1 ≤ 18446744073709551615) from ⟨(by omega), (by omega)⟩))
 replace hi1013 : a2 ≠ (1 : Int) := (bEqF hi1013)
 refine iteR (p := fun r : (Int × Int × Bool) => (0 ≤ r.1 ∧ r.1 ≤ 255) ∧ (0 ≤ r.2.1 ∧ r.2.1 ≤ 18446744073709551615)) (fun hi1014 => ?_) (fun hi1014 => ?_)
 ·
  replace hi1014 : ((a2 = (0 : Int)) ∨ (a1 = true)) ∨ ((a0 ≠ (1 : Int)) ∧ (a0 ≠ (2 : Int))) := (orMap (bOrT hi1014) (fun h => (orMap (bOrT h) (fun h => (bEqT h)) (fun h => h))) (fun h => ⟨(bNeT (bAndT h).1), (bNeT (bAndT h).2)⟩))
  exact (by exact (show (0 ≤ (0 : Int) ∧ (0 : Int) ≤ 255) ∧ (0 ≤ (0 : Int) ∧ (0 : Int) ≤ 18446744073709551615) from ⟨(by omega), (by omega)⟩))
 replace hi1014 : ((a2 ≠ (0 : Int)) ∧ (a1 = false)) ∧ ((a0 = (1 : Int)) ∨ (a0 = (2 : Int))) := ⟨⟨(bEqF (bOrF (bOrF hi1014).1).1), (bOrF (bOrF hi1014).1).2⟩, (orMap (bAndF (bOrF hi1014).2) (fun h => (bNeF h)) (fun h => (bNeF h)))⟩
 refine letR (p := fun r : (Int × Int × Bool) => (0 ≤ r.1 ∧ r.1 ≤ 255) ∧ (0 ≤ r.2.1 ∧ r.2.1 ≤ 18446744073709551615)) fun x185 hx186 => ?_
 have hx187 : (0 ≤ x185.1 ∧ x185.1 ≤ 18446744073709551615) ∧ (-9223372036854775808 ≤ x185.2 ∧ x185.2 ≤ 9223372036854775807) := by rw [← hx186]; exact alu_Do_ok a0 false a3 a5 (by omega) (by omega) (by omega) 
 exact (by exact (show (0 ≤ a2 ∧ a2 ≤ 255) ∧ (0 ≤ x185.1 ∧ x185.1 ≤ 18446744073709551615) from ⟨(by omega), (by omega)⟩))

set_option maxHeartbeats 4000000 in
theorem law12_made_any (a0 : Int) (a1 : Bool) (a2 : Int) (a3 : Int) (a4 : Int) (a5 : Int)   (w : World)  (_h_a0 : (0 ≤ a0 ∧ a0 ≤ 255)) (_h_a2 : (0 ≤ a2 ∧ a2 ≤ 255)) (_h_a3 : (0 ≤ a3 ∧ a3 ≤ 18446744073709551615)) (_h_a4 : (0 ≤ a4 ∧ a4 ≤ 255)) (_h_a5 : (0 ≤ a5 ∧ a5 ≤ 18446744073709551615))  : Calls Try.prog 48 #[.int .u8 a0, .bool a1, .int .u8 a2, .int .u64 a3, .int .u8 a4, .int .u64 a5] w (RetV w (.tuple #[.int .u8 (law12_made a0 a1 a2 a3 a4 a5).1, .int .u64 (law12_made a0 a1 a2 a3 a4 a5).2.1, .bool (law12_made a0 a1 a2 a3 a4 a5).2.2])) := by
 have hs := law12_made.eq_1 a0 a1 a2 a3 a4 a5
 refine calls_of_CW Try.func48 rfl (n := 73) Try.ntmps48 (by kernel_rfl) [0, 1, 2, 3, 4, 5] (F := [(0, .int .u8 a0), (1, .bool a1), (2, .int .u8 a2), (3, .int .u64 a3), (4, .int .u8 a4), (5, .int .u64 a5)]) (by kernel_rfl) ?_
 refine CW.seq fun K1 hK1 => ?_
 refine CW.region ?_
 refine WR.batch 3 [(0, .int .u8 a0), (1, .bool a1), (2, .int .u8 a2), (3, .int .u64 a3), (4, .int .u8 a4), (5, .int .u64 a5)] (by kernel_rfl) ?_
 refine WR.fin (by kernel_rfl) ?_
 refine go hK1 ?_
 refine CW.seq fun K2 hK2 => ?_
 refine CW.seq fun K3 hK3 => ?_
 refine CW.region ?_
 refine WR.batch 3 [(0, .int .u8 a0), (1, .bool a1), (2, .int .u8 a2), (3, .int .u64 a3), (4, .int .u8 a4), (5, .int .u64 a5), (21, .bool (a0 == (12 : Int)))] (by kernel_rfl) ?_
 refine WR.batch 3 [(0, .int .u8 a0), (1, .bool a1), (2, .int .u8 a2), (3, .int .u64 a3), (4, .int .u8 a4), (5, .int .u64 a5), (24, .bool ((a0 == (12 : Int)) && (!a1)))] (by generalize (a0 == (12 : Int)) = b; cases b <;> kernel_rfl) ?_
 refine WR.fin (by kernel_rfl) ?_
 refine go hK3 ?_
 refine CW.cond (((a0 == (12 : Int)) && (!a1))) (by kernel_rfl) (fun ht4 => ?_) (fun ht4 => ?_)
 ·
  have hs5 := ifT ht4 hs
  replace ht4 : (a0 = (12 : Int)) ∧ (a1 = false) := ⟨(bEqT (bAndT ht4).1), (bNotT (bAndT ht4).2)⟩
  refine CW.seq fun K6 hK6 => ?_
  refine CW.region ?_
  refine WR.batch 7 [(12, .int .u8 a4), (13, .int .u64 a5), (14, .bool (a4 != (0 : Int)))] (by kernel_rfl) ?_
  refine WR.fin (by kernel_rfl) ?_
  refine go hK6 ?_
  refine CW.ret ?_
  exact retV (.tuple #[.int .u8 a4, .int .u64 a5, .bool (a4 != (0 : Int))]) (by kernel_rfl) (⟨(Chg.refl _ _), (congrArg (fun r : (Int × Int × Bool) => (.tuple #[.int .u8 r.1, .int .u64 r.2.1, .bool r.2.2] : Value)) hs5).symm⟩)
 have hs7 := ifF ht4 hs
 replace ht4 : (a0 ≠ (12 : Int)) ∨ (a1 = true) := (orMap (bAndF ht4) (fun h => (bEqF h)) (fun h => (bNotF h)))
 refine CW.skip ?_
 refine go hK2 ?_
 refine CW.seq fun K8 hK8 => ?_
 refine CW.seq fun K9 hK9 => ?_
 refine CW.region ?_
 refine WR.batch 2 [(0, .int .u8 a0), (1, .bool a1), (2, .int .u8 a2), (3, .int .u64 a3), (4, .int .u8 a4), (5, .int .u64 a5), (30, .bool (a0 == (12 : Int)))] (by kernel_rfl) ?_
 refine WR.fin (by kernel_rfl) ?_
 refine go hK9 ?_
 refine CW.cond ((a0 == (12 : Int))) (by kernel_rfl) (fun ht10 => ?_) (fun ht10 => ?_)
 ·
  have hs11 := ifT ht10 hs7
  replace ht10 : a0 = (12 : Int) := (bEqT ht10)
  refine CW.region ?_
  refine WR.batch 2 [(0, .int .u8 a0), (1, .bool a1), (2, .int .u8 a4), (3, .int .u64 a3), (4, .int .u8 a4), (5, .int .u64 a5)] (by kernel_rfl) ?_
  refine WR.fin (by kernel_rfl) ?_
  refine go hK8 ?_
  refine CW.seq fun K12 hK12 => ?_
  refine CW.seq fun K13 hK13 => ?_
  refine CW.region ?_
  refine WR.batch 2 [(0, .int .u8 a0), (1, .bool a1), (2, .int .u8 a4), (3, .int .u64 a3), (4, .int .u8 a4), (5, .int .u64 a5), (33, .bool (a0 == (13 : Int)))] (by kernel_rfl) ?_
  refine WR.fin (by kernel_rfl) ?_
  refine go hK13 ?_
  refine CW.cond ((a0 == (13 : Int))) (by kernel_rfl) (fun ht14 => ?_) (fun ht14 => ?_)
  ·
   have hs15 := ifT ht14 hs11
   replace ht14 : a0 = (13 : Int) := (bEqT ht14)
   refine CW.region ?_
   refine WR.batch 1 [(0, .int .u8 a0), (1, .bool a1), (2, .int .u8 a4), (3, .int .u64 a3), (4, .int .u8 1), (5, .int .u64 a5)] (by kernel_rfl) ?_
   refine WR.fin (by kernel_rfl) ?_
   refine go hK12 ?_
   refine CW.seq fun K16 hK16 => ?_
   refine CW.seq fun K17 hK17 => ?_
   refine CW.region ?_
   refine WR.batch 2 [(0, .int .u8 a0), (1, .bool a1), (2, .int .u8 a4), (3, .int .u64 a3), (5, .int .u64 a5), (35, .bool false)] (by kernel_rfl) ?_
   refine WR.fin (by kernel_rfl) ?_
   refine go hK17 ?_
   refine CW.no (by kernel_rfl) ?_
   refine CW.skip ?_
   refine go hK16 ?_
   refine CW.seq fun K18 hK18 => ?_
   refine CW.seq fun K19 hK19 => ?_
   refine CW.region ?_
   refine WR.batch 2 [(0, .int .u8 a0), (1, .bool a1), (2, .int .u8 a4), (3, .int .u64 a3), (5, .int .u64 a5), (37, .bool (a4 == (1 : Int)))] (by kernel_rfl) ?_
   refine WR.fin (by kernel_rfl) ?_
   refine go hK19 ?_
   refine CW.cond ((a4 == (1 : Int))) (by kernel_rfl) (fun ht20 => ?_) (fun ht20 => ?_)
   ·
    have hs21 := ifT ht20 hs15
    replace ht20 : a4 = (1 : Int) := (bEqT ht20)
    refine CW.seq fun K22 hK22 => ?_
    refine CW.region ?_
    refine WR.batch 4 [(39, .int .u8 a0), (40, .bool a1), (41, .int .u64 a3), (42, .int .u64 a5)] (by kernel_rfl) ?_
    obtain ⟨x23, hx24⟩ : ∃ x, alu_Do a0 a1 a3 a5 = x := ⟨_, rfl⟩
    have hs26 := letS hx24 hs21
    have hx27 : (0 ≤ x23.1 ∧ x23.1 ≤ 18446744073709551615) ∧ (-9223372036854775808 ≤ x23.2 ∧ x23.2 ≤ 9223372036854775807) := by rw [← hx24]; exact alu_Do_ok a0 a1 a3 a5 (by omega) (by omega) (by omega) 
    refine WR.call (dst := some 43) (by kernel_rfl) (retE (g := fun r : (Int × Int) => (.tuple #[.int .u64 r.1, .int .i64 r.2] : Value)) hx24 (alu_Do_any a0 a1 a3 a5 w  (by omega) (by omega) (by omega) )) ?_
    rintro _ w28 hc29 rfl
    have hz31 := hc29.size
    have hC30 := (Chg.refl [] w).pure hc29
    refine WR.batch 5 [(15, .int .u64 x23.1), (16, .int .i64 x23.2)] (by kernel_rfl) ?_
    refine WR.fin (by kernel_rfl) ?_
    refine go hK22 ?_
    refine CW.seq fun K32 hK32 => ?_
    refine CW.region ?_
    refine WR.batch 6 [(12, .int .u8 1), (13, .int .u64 x23.1), (14, .bool (x23.2 == (0 : Int)))] (by kernel_rfl) ?_
    refine WR.fin (by kernel_rfl) ?_
    refine go hK32 ?_
    refine CW.ret ?_
    exact retV (.tuple #[.int .u8 1, .int .u64 x23.1, .bool (x23.2 == (0 : Int))]) (by kernel_rfl) (⟨hC30, (congrArg (fun r : (Int × Int × Bool) => (.tuple #[.int .u8 r.1, .int .u64 r.2.1, .bool r.2.2] : Value)) hs26).symm⟩)
   have hs33 := ifF ht20 hs15
   replace ht20 : a4 ≠ (1 : Int) := (bEqF ht20)
   refine CW.skip ?_
   refine go hK18 ?_
   refine CW.seq fun K34 hK34 => ?_
   refine CW.seq fun K35 hK35 => ?_
   refine CW.region ?_
   refine WR.batch 3 [(0, .int .u8 a0), (1, .bool a1), (2, .int .u8 a4), (3, .int .u64 a3), (5, .int .u64 a5), (51, .bool (a4 == (0 : Int)))] (by kernel_rfl) ?_
   refine WR.batch 2 [(0, .int .u8 a0), (2, .int .u8 a4), (3, .int .u64 a3), (5, .int .u64 a5), (53, .bool ((a4 == (0 : Int)) || a1))] (by generalize (a4 == (0 : Int)) = b; cases b <;> kernel_rfl) ?_
   refine WR.batch 1 [(0, .int .u8 a0), (2, .int .u8 a4), (3, .int .u64 a3), (5, .int .u64 a5), (54, .bool ((a4 == (0 : Int)) || a1))] (by kernel_rfl) ?_
   refine WR.mergeW 13 [(0, .int .u8 a0), (2, .int .u8 a4), (3, .int .u64 a3), (5, .int .u64 a5), (61, .bool (((a4 == (0 : Int)) || a1) || ((a0 != (1 : Int)) && (a0 != (2 : Int)))))] (fun w' => Chg [] w w') (fun Q' => ?_) ?_
   ·
    cases hg36 : ((a4 == (0 : Int)) || a1)
    ·
     replace hg36 : (a4 ≠ (0 : Int)) ∧ (a1 = false) := ⟨(bEqF (bOrF hg36).1), (bOrF hg36).2⟩
     intro hM37
     refine WR.batch 3 [(0, .int .u8 a0), (2, .int .u8 a4), (3, .int .u64 a3), (5, .int .u64 a5), (54, .bool false), (57, .bool (a0 != (1 : Int)))] (by kernel_rfl) ?_
     refine WR.batch 3 [(0, .int .u8 a0), (2, .int .u8 a4), (3, .int .u64 a3), (5, .int .u64 a5), (54, .bool false), (60, .bool ((a0 != (1 : Int)) && (a0 != (2 : Int))))] (by generalize (a0 != (1 : Int)) = b; cases b <;> kernel_rfl) ?_
     refine WR.batch 1 [(0, .int .u8 a0), (2, .int .u8 a4), (3, .int .u64 a3), (5, .int .u64 a5), (61, .bool ((a0 != (1 : Int)) && (a0 != (2 : Int))))] (by kernel_rfl) ?_
     exact WR.keep [0, 2, 3, 5, 61] (by kernel_rfl) (hM37 _ (Chg.refl [] w))
    ·
     replace hg36 : (a4 = (0 : Int)) ∨ (a1 = true) := (orMap (bOrT hg36) (fun h => (bEqT h)) (fun h => h))
     intro hM37
     refine WR.batch 7 [(0, .int .u8 a0), (2, .int .u8 a4), (3, .int .u64 a3), (5, .int .u64 a5), (61, .bool true)] (by kernel_rfl) ?_
     exact WR.keep [0, 2, 3, 5, 61] (by kernel_rfl) (hM37 _ (Chg.refl [] w))
   intro w38 hc39
   have hz41 := hc39.size
   have hC40 := (Chg.refl [] w).pure hc39
   refine WR.fin (by kernel_rfl) ?_
   refine go hK35 ?_
   refine CW.cond ((((a4 == (0 : Int)) || a1) || ((a0 != (1 : Int)) && (a0 != (2 : Int))))) (by kernel_rfl) (fun ht42 => ?_) (fun ht42 => ?_)
   ·
    have hs43 := ifT ht42 hs33
    replace ht42 : ((a4 = (0 : Int)) ∨ (a1 = true)) ∨ ((a0 ≠ (1 : Int)) ∧ (a0 ≠ (2 : Int))) := (orMap (bOrT ht42) (fun h => (orMap (bOrT h) (fun h => (bEqT h)) (fun h => h))) (fun h => ⟨(bNeT (bAndT h).1), (bNeT (bAndT h).2)⟩))
    refine CW.seq fun K44 hK44 => ?_
    refine CW.region ?_
    refine WR.batch 3 [(12, .int .u8 0), (13, .int .u64 0), (14, .bool false)] (by kernel_rfl) ?_
    refine WR.fin (by kernel_rfl) ?_
    refine go hK44 ?_
    refine CW.ret ?_
    exact retV (.tuple #[.int .u8 0, .int .u64 0, .bool false]) (by kernel_rfl) (⟨hC40, (congrArg (fun r : (Int × Int × Bool) => (.tuple #[.int .u8 r.1, .int .u64 r.2.1, .bool r.2.2] : Value)) hs43).symm⟩)
   have hs45 := ifF ht42 hs33
   replace ht42 : ((a4 ≠ (0 : Int)) ∧ (a1 = false)) ∧ ((a0 = (1 : Int)) ∨ (a0 = (2 : Int))) := ⟨⟨(bEqF (bOrF (bOrF ht42).1).1), (bOrF (bOrF ht42).1).2⟩, (orMap (bAndF (bOrF ht42).2) (fun h => (bNeF h)) (fun h => (bNeF h)))⟩
   refine CW.skip ?_
   refine go hK34 ?_
   refine CW.seq fun K46 hK46 => ?_
   refine CW.region ?_
   refine WR.batch 3 [(2, .int .u8 a4), (63, .int .u8 a0), (64, .int .u64 a3), (65, .int .u64 a5)] (by kernel_rfl) ?_
   obtain ⟨x47, hx48⟩ : ∃ x, alu_Do a0 false a3 a5 = x := ⟨_, rfl⟩
   have hs50 := letS hx48 hs45
   have hx51 : (0 ≤ x47.1 ∧ x47.1 ≤ 18446744073709551615) ∧ (-9223372036854775808 ≤ x47.2 ∧ x47.2 ≤ 9223372036854775807) := by rw [← hx48]; exact alu_Do_ok a0 false a3 a5 (by omega) (by omega) (by omega) 
   refine WR.call (dst := some 66) (by kernel_rfl) (retE (g := fun r : (Int × Int) => (.tuple #[.int .u64 r.1, .int .i64 r.2] : Value)) hx48 (alu_Do_any a0 false a3 a5 w38  (by omega) (by omega) (by omega) )) ?_
   rintro _ w52 hc53 rfl
   have hz55 := hc53.size
   have hC54 := hC40.pure hc53
   refine WR.batch 5 [(2, .int .u8 a4), (17, .int .u64 x47.1), (18, .int .i64 x47.2)] (by kernel_rfl) ?_
   refine WR.fin (by kernel_rfl) ?_
   refine go hK46 ?_
   refine CW.seq fun K56 hK56 => ?_
   refine CW.region ?_
   refine WR.batch 7 [(12, .int .u8 a4), (13, .int .u64 x47.1), (14, .bool (x47.2 == (0 : Int)))] (by kernel_rfl) ?_
   refine WR.fin (by kernel_rfl) ?_
   refine go hK56 ?_
   refine CW.ret ?_
   exact retV (.tuple #[.int .u8 a4, .int .u64 x47.1, .bool (x47.2 == (0 : Int))]) (by kernel_rfl) (⟨hC54, (congrArg (fun r : (Int × Int × Bool) => (.tuple #[.int .u8 r.1, .int .u64 r.2.1, .bool r.2.2] : Value)) hs50).symm⟩)
  have hs57 := ifF ht14 hs11
  replace ht14 : a0 ≠ (13 : Int) := (bEqF ht14)
  refine CW.skip ?_
  refine go hK12 ?_
  refine CW.seq fun K58 hK58 => ?_
  refine CW.seq fun K59 hK59 => ?_
  refine CW.region ?_
  refine WR.batch 2 [(0, .int .u8 a0), (1, .bool a1), (2, .int .u8 a4), (3, .int .u64 a3), (5, .int .u64 a5), (35, .bool (a4 != (1 : Int)))] (by kernel_rfl) ?_
  refine WR.fin (by kernel_rfl) ?_
  refine go hK59 ?_
  refine CW.cond ((a4 != (1 : Int))) (by kernel_rfl) (fun ht60 => ?_) (fun ht60 => ?_)
  ·
   have hs61 := ifT ht60 hs57
   replace ht60 : a4 ≠ (1 : Int) := (bNeT ht60)
   refine CW.seq fun K62 hK62 => ?_
   refine CW.region ?_
   refine WR.batch 3 [(12, .int .u8 0), (13, .int .u64 0), (14, .bool false)] (by kernel_rfl) ?_
   refine WR.fin (by kernel_rfl) ?_
   refine go hK62 ?_
   refine CW.ret ?_
   exact retV (.tuple #[.int .u8 0, .int .u64 0, .bool false]) (by kernel_rfl) (⟨(Chg.refl _ _), (congrArg (fun r : (Int × Int × Bool) => (.tuple #[.int .u8 r.1, .int .u64 r.2.1, .bool r.2.2] : Value)) hs61).symm⟩)
  have hs63 := ifF ht60 hs57
  replace ht60 : a4 = (1 : Int) := (bNeF ht60)
  refine CW.skip ?_
  refine go hK58 ?_
  refine CW.seq fun K64 hK64 => ?_
  refine CW.seq fun K65 hK65 => ?_
  refine CW.region ?_
  refine WR.batch 2 [(0, .int .u8 a0), (1, .bool a1), (2, .int .u8 a4), (3, .int .u64 a3), (5, .int .u64 a5), (37, .bool (a4 == (1 : Int)))] (by kernel_rfl) ?_
  refine WR.fin (by kernel_rfl) ?_
  refine go hK65 ?_
  refine CW.cond ((a4 == (1 : Int))) (by kernel_rfl) (fun ht66 => ?_) (fun ht66 => ?_)
  ·
   have hs67 := ifT ht66 hs63
   replace ht66 : a4 = (1 : Int) := (bEqT ht66)
   refine CW.seq fun K68 hK68 => ?_
   refine CW.region ?_
   refine WR.batch 4 [(39, .int .u8 a0), (40, .bool a1), (41, .int .u64 a3), (42, .int .u64 a5)] (by kernel_rfl) ?_
   obtain ⟨x69, hx70⟩ : ∃ x, alu_Do a0 a1 a3 a5 = x := ⟨_, rfl⟩
   have hs72 := letS hx70 hs67
   have hx73 : (0 ≤ x69.1 ∧ x69.1 ≤ 18446744073709551615) ∧ (-9223372036854775808 ≤ x69.2 ∧ x69.2 ≤ 9223372036854775807) := by rw [← hx70]; exact alu_Do_ok a0 a1 a3 a5 (by omega) (by omega) (by omega) 
   refine WR.call (dst := some 43) (by kernel_rfl) (retE (g := fun r : (Int × Int) => (.tuple #[.int .u64 r.1, .int .i64 r.2] : Value)) hx70 (alu_Do_any a0 a1 a3 a5 w  (by omega) (by omega) (by omega) )) ?_
   rintro _ w74 hc75 rfl
   have hz77 := hc75.size
   have hC76 := (Chg.refl [] w).pure hc75
   refine WR.batch 5 [(15, .int .u64 x69.1), (16, .int .i64 x69.2)] (by kernel_rfl) ?_
   refine WR.fin (by kernel_rfl) ?_
   refine go hK68 ?_
   refine CW.seq fun K78 hK78 => ?_
   refine CW.region ?_
   refine WR.batch 6 [(12, .int .u8 1), (13, .int .u64 x69.1), (14, .bool (x69.2 == (0 : Int)))] (by kernel_rfl) ?_
   refine WR.fin (by kernel_rfl) ?_
   refine go hK78 ?_
   refine CW.ret ?_
   exact retV (.tuple #[.int .u8 1, .int .u64 x69.1, .bool (x69.2 == (0 : Int))]) (by kernel_rfl) (⟨hC76, (congrArg (fun r : (Int × Int × Bool) => (.tuple #[.int .u8 r.1, .int .u64 r.2.1, .bool r.2.2] : Value)) hs72).symm⟩)
  have hs79 := ifF ht66 hs63
  replace ht66 : a4 ≠ (1 : Int) := (bEqF ht66)
  refine CW.skip ?_
  refine go hK64 ?_
  refine CW.seq fun K80 hK80 => ?_
  refine CW.seq fun K81 hK81 => ?_
  refine CW.region ?_
  refine WR.batch 3 [(0, .int .u8 a0), (1, .bool a1), (2, .int .u8 a4), (3, .int .u64 a3), (5, .int .u64 a5), (51, .bool (a4 == (0 : Int)))] (by kernel_rfl) ?_
  refine WR.batch 2 [(0, .int .u8 a0), (2, .int .u8 a4), (3, .int .u64 a3), (5, .int .u64 a5), (53, .bool ((a4 == (0 : Int)) || a1))] (by generalize (a4 == (0 : Int)) = b; cases b <;> kernel_rfl) ?_
  refine WR.batch 1 [(0, .int .u8 a0), (2, .int .u8 a4), (3, .int .u64 a3), (5, .int .u64 a5), (54, .bool ((a4 == (0 : Int)) || a1))] (by kernel_rfl) ?_
  refine WR.mergeW 13 [(0, .int .u8 a0), (2, .int .u8 a4), (3, .int .u64 a3), (5, .int .u64 a5), (61, .bool (((a4 == (0 : Int)) || a1) || ((a0 != (1 : Int)) && (a0 != (2 : Int)))))] (fun w' => Chg [] w w') (fun Q' => ?_) ?_
  ·
   cases hg82 : ((a4 == (0 : Int)) || a1)
   ·
    replace hg82 : (a4 ≠ (0 : Int)) ∧ (a1 = false) := ⟨(bEqF (bOrF hg82).1), (bOrF hg82).2⟩
    intro hM83
    refine WR.batch 3 [(0, .int .u8 a0), (2, .int .u8 a4), (3, .int .u64 a3), (5, .int .u64 a5), (54, .bool false), (57, .bool (a0 != (1 : Int)))] (by kernel_rfl) ?_
    refine WR.batch 3 [(0, .int .u8 a0), (2, .int .u8 a4), (3, .int .u64 a3), (5, .int .u64 a5), (54, .bool false), (60, .bool ((a0 != (1 : Int)) && (a0 != (2 : Int))))] (by generalize (a0 != (1 : Int)) = b; cases b <;> kernel_rfl) ?_
    refine WR.batch 1 [(0, .int .u8 a0), (2, .int .u8 a4), (3, .int .u64 a3), (5, .int .u64 a5), (61, .bool ((a0 != (1 : Int)) && (a0 != (2 : Int))))] (by kernel_rfl) ?_
    exact WR.keep [0, 2, 3, 5, 61] (by kernel_rfl) (hM83 _ (Chg.refl [] w))
   ·
    replace hg82 : (a4 = (0 : Int)) ∨ (a1 = true) := (orMap (bOrT hg82) (fun h => (bEqT h)) (fun h => h))
    intro hM83
    refine WR.batch 7 [(0, .int .u8 a0), (2, .int .u8 a4), (3, .int .u64 a3), (5, .int .u64 a5), (61, .bool true)] (by kernel_rfl) ?_
    exact WR.keep [0, 2, 3, 5, 61] (by kernel_rfl) (hM83 _ (Chg.refl [] w))
  intro w84 hc85
  have hz87 := hc85.size
  have hC86 := (Chg.refl [] w).pure hc85
  refine WR.fin (by kernel_rfl) ?_
  refine go hK81 ?_
  refine CW.cond ((((a4 == (0 : Int)) || a1) || ((a0 != (1 : Int)) && (a0 != (2 : Int))))) (by kernel_rfl) (fun ht88 => ?_) (fun ht88 => ?_)
  ·
   have hs89 := ifT ht88 hs79
   replace ht88 : ((a4 = (0 : Int)) ∨ (a1 = true)) ∨ ((a0 ≠ (1 : Int)) ∧ (a0 ≠ (2 : Int))) := (orMap (bOrT ht88) (fun h => (orMap (bOrT h) (fun h => (bEqT h)) (fun h => h))) (fun h => ⟨(bNeT (bAndT h).1), (bNeT (bAndT h).2)⟩))
   refine CW.seq fun K90 hK90 => ?_
   refine CW.region ?_
   refine WR.batch 3 [(12, .int .u8 0), (13, .int .u64 0), (14, .bool false)] (by kernel_rfl) ?_
   refine WR.fin (by kernel_rfl) ?_
   refine go hK90 ?_
   refine CW.ret ?_
   exact retV (.tuple #[.int .u8 0, .int .u64 0, .bool false]) (by kernel_rfl) (⟨hC86, (congrArg (fun r : (Int × Int × Bool) => (.tuple #[.int .u8 r.1, .int .u64 r.2.1, .bool r.2.2] : Value)) hs89).symm⟩)
  have hs91 := ifF ht88 hs79
  replace ht88 : ((a4 ≠ (0 : Int)) ∧ (a1 = false)) ∧ ((a0 = (1 : Int)) ∨ (a0 = (2 : Int))) := ⟨⟨(bEqF (bOrF (bOrF ht88).1).1), (bOrF (bOrF ht88).1).2⟩, (orMap (bAndF (bOrF ht88).2) (fun h => (bNeF h)) (fun h => (bNeF h)))⟩
  refine CW.skip ?_
  refine go hK80 ?_
  refine CW.seq fun K92 hK92 => ?_
  refine CW.region ?_
  refine WR.batch 3 [(2, .int .u8 a4), (63, .int .u8 a0), (64, .int .u64 a3), (65, .int .u64 a5)] (by kernel_rfl) ?_
  obtain ⟨x93, hx94⟩ : ∃ x, alu_Do a0 false a3 a5 = x := ⟨_, rfl⟩
  have hs96 := letS hx94 hs91
  have hx97 : (0 ≤ x93.1 ∧ x93.1 ≤ 18446744073709551615) ∧ (-9223372036854775808 ≤ x93.2 ∧ x93.2 ≤ 9223372036854775807) := by rw [← hx94]; exact alu_Do_ok a0 false a3 a5 (by omega) (by omega) (by omega) 
  refine WR.call (dst := some 66) (by kernel_rfl) (retE (g := fun r : (Int × Int) => (.tuple #[.int .u64 r.1, .int .i64 r.2] : Value)) hx94 (alu_Do_any a0 false a3 a5 w84  (by omega) (by omega) (by omega) )) ?_
  rintro _ w98 hc99 rfl
  have hz101 := hc99.size
  have hC100 := hC86.pure hc99
  refine WR.batch 5 [(2, .int .u8 a4), (17, .int .u64 x93.1), (18, .int .i64 x93.2)] (by kernel_rfl) ?_
  refine WR.fin (by kernel_rfl) ?_
  refine go hK92 ?_
  refine CW.seq fun K102 hK102 => ?_
  refine CW.region ?_
  refine WR.batch 7 [(12, .int .u8 a4), (13, .int .u64 x93.1), (14, .bool (x93.2 == (0 : Int)))] (by kernel_rfl) ?_
  refine WR.fin (by kernel_rfl) ?_
  refine go hK102 ?_
  refine CW.ret ?_
  exact retV (.tuple #[.int .u8 a4, .int .u64 x93.1, .bool (x93.2 == (0 : Int))]) (by kernel_rfl) (⟨hC100, (congrArg (fun r : (Int × Int × Bool) => (.tuple #[.int .u8 r.1, .int .u64 r.2.1, .bool r.2.2] : Value)) hs96).symm⟩)
 have hs103 := ifF ht10 hs7
 replace ht10 : a0 ≠ (12 : Int) := (bEqF ht10)
 refine CW.skip ?_
 refine go hK8 ?_
 refine CW.seq fun K104 hK104 => ?_
 refine CW.seq fun K105 hK105 => ?_
 refine CW.region ?_
 refine WR.batch 2 [(0, .int .u8 a0), (1, .bool a1), (2, .int .u8 a2), (3, .int .u64 a3), (4, .int .u8 a4), (5, .int .u64 a5), (33, .bool (a0 == (13 : Int)))] (by kernel_rfl) ?_
 refine WR.fin (by kernel_rfl) ?_
 refine go hK105 ?_
 refine CW.cond ((a0 == (13 : Int))) (by kernel_rfl) (fun ht106 => ?_) (fun ht106 => ?_)
 ·
  have hs107 := ifT ht106 hs103
  replace ht106 : a0 = (13 : Int) := (bEqT ht106)
  refine CW.region ?_
  refine WR.batch 1 [(0, .int .u8 a0), (1, .bool a1), (2, .int .u8 a2), (3, .int .u64 a3), (4, .int .u8 1), (5, .int .u64 a5)] (by kernel_rfl) ?_
  refine WR.fin (by kernel_rfl) ?_
  refine go hK104 ?_
  refine CW.seq fun K108 hK108 => ?_
  refine CW.seq fun K109 hK109 => ?_
  refine CW.region ?_
  refine WR.batch 2 [(0, .int .u8 a0), (1, .bool a1), (2, .int .u8 a2), (3, .int .u64 a3), (5, .int .u64 a5), (35, .bool false)] (by kernel_rfl) ?_
  refine WR.fin (by kernel_rfl) ?_
  refine go hK109 ?_
  refine CW.no (by kernel_rfl) ?_
  refine CW.skip ?_
  refine go hK108 ?_
  refine CW.seq fun K110 hK110 => ?_
  refine CW.seq fun K111 hK111 => ?_
  refine CW.region ?_
  refine WR.batch 2 [(0, .int .u8 a0), (1, .bool a1), (2, .int .u8 a2), (3, .int .u64 a3), (5, .int .u64 a5), (37, .bool (a2 == (1 : Int)))] (by kernel_rfl) ?_
  refine WR.fin (by kernel_rfl) ?_
  refine go hK111 ?_
  refine CW.cond ((a2 == (1 : Int))) (by kernel_rfl) (fun ht112 => ?_) (fun ht112 => ?_)
  ·
   have hs113 := ifT ht112 hs107
   replace ht112 : a2 = (1 : Int) := (bEqT ht112)
   refine CW.seq fun K114 hK114 => ?_
   refine CW.region ?_
   refine WR.batch 4 [(39, .int .u8 a0), (40, .bool a1), (41, .int .u64 a3), (42, .int .u64 a5)] (by kernel_rfl) ?_
   obtain ⟨x115, hx116⟩ : ∃ x, alu_Do a0 a1 a3 a5 = x := ⟨_, rfl⟩
   have hs118 := letS hx116 hs113
   have hx119 : (0 ≤ x115.1 ∧ x115.1 ≤ 18446744073709551615) ∧ (-9223372036854775808 ≤ x115.2 ∧ x115.2 ≤ 9223372036854775807) := by rw [← hx116]; exact alu_Do_ok a0 a1 a3 a5 (by omega) (by omega) (by omega) 
   refine WR.call (dst := some 43) (by kernel_rfl) (retE (g := fun r : (Int × Int) => (.tuple #[.int .u64 r.1, .int .i64 r.2] : Value)) hx116 (alu_Do_any a0 a1 a3 a5 w  (by omega) (by omega) (by omega) )) ?_
   rintro _ w120 hc121 rfl
   have hz123 := hc121.size
   have hC122 := (Chg.refl [] w).pure hc121
   refine WR.batch 5 [(15, .int .u64 x115.1), (16, .int .i64 x115.2)] (by kernel_rfl) ?_
   refine WR.fin (by kernel_rfl) ?_
   refine go hK114 ?_
   refine CW.seq fun K124 hK124 => ?_
   refine CW.region ?_
   refine WR.batch 6 [(12, .int .u8 1), (13, .int .u64 x115.1), (14, .bool (x115.2 == (0 : Int)))] (by kernel_rfl) ?_
   refine WR.fin (by kernel_rfl) ?_
   refine go hK124 ?_
   refine CW.ret ?_
   exact retV (.tuple #[.int .u8 1, .int .u64 x115.1, .bool (x115.2 == (0 : Int))]) (by kernel_rfl) (⟨hC122, (congrArg (fun r : (Int × Int × Bool) => (.tuple #[.int .u8 r.1, .int .u64 r.2.1, .bool r.2.2] : Value)) hs118).symm⟩)
  have hs125 := ifF ht112 hs107
  replace ht112 : a2 ≠ (1 : Int) := (bEqF ht112)
  refine CW.skip ?_
  refine go hK110 ?_
  refine CW.seq fun K126 hK126 => ?_
  refine CW.seq fun K127 hK127 => ?_
  refine CW.region ?_
  refine WR.batch 3 [(0, .int .u8 a0), (1, .bool a1), (2, .int .u8 a2), (3, .int .u64 a3), (5, .int .u64 a5), (51, .bool (a2 == (0 : Int)))] (by kernel_rfl) ?_
  refine WR.batch 2 [(0, .int .u8 a0), (2, .int .u8 a2), (3, .int .u64 a3), (5, .int .u64 a5), (53, .bool ((a2 == (0 : Int)) || a1))] (by generalize (a2 == (0 : Int)) = b; cases b <;> kernel_rfl) ?_
  refine WR.batch 1 [(0, .int .u8 a0), (2, .int .u8 a2), (3, .int .u64 a3), (5, .int .u64 a5), (54, .bool ((a2 == (0 : Int)) || a1))] (by kernel_rfl) ?_
  refine WR.mergeW 13 [(0, .int .u8 a0), (2, .int .u8 a2), (3, .int .u64 a3), (5, .int .u64 a5), (61, .bool (((a2 == (0 : Int)) || a1) || ((a0 != (1 : Int)) && (a0 != (2 : Int)))))] (fun w' => Chg [] w w') (fun Q' => ?_) ?_
  ·
   cases hg128 : ((a2 == (0 : Int)) || a1)
   ·
    replace hg128 : (a2 ≠ (0 : Int)) ∧ (a1 = false) := ⟨(bEqF (bOrF hg128).1), (bOrF hg128).2⟩
    intro hM129
    refine WR.batch 3 [(0, .int .u8 a0), (2, .int .u8 a2), (3, .int .u64 a3), (5, .int .u64 a5), (54, .bool false), (57, .bool (a0 != (1 : Int)))] (by kernel_rfl) ?_
    refine WR.batch 3 [(0, .int .u8 a0), (2, .int .u8 a2), (3, .int .u64 a3), (5, .int .u64 a5), (54, .bool false), (60, .bool ((a0 != (1 : Int)) && (a0 != (2 : Int))))] (by generalize (a0 != (1 : Int)) = b; cases b <;> kernel_rfl) ?_
    refine WR.batch 1 [(0, .int .u8 a0), (2, .int .u8 a2), (3, .int .u64 a3), (5, .int .u64 a5), (61, .bool ((a0 != (1 : Int)) && (a0 != (2 : Int))))] (by kernel_rfl) ?_
    exact WR.keep [0, 2, 3, 5, 61] (by kernel_rfl) (hM129 _ (Chg.refl [] w))
   ·
    replace hg128 : (a2 = (0 : Int)) ∨ (a1 = true) := (orMap (bOrT hg128) (fun h => (bEqT h)) (fun h => h))
    intro hM129
    refine WR.batch 7 [(0, .int .u8 a0), (2, .int .u8 a2), (3, .int .u64 a3), (5, .int .u64 a5), (61, .bool true)] (by kernel_rfl) ?_
    exact WR.keep [0, 2, 3, 5, 61] (by kernel_rfl) (hM129 _ (Chg.refl [] w))
  intro w130 hc131
  have hz133 := hc131.size
  have hC132 := (Chg.refl [] w).pure hc131
  refine WR.fin (by kernel_rfl) ?_
  refine go hK127 ?_
  refine CW.cond ((((a2 == (0 : Int)) || a1) || ((a0 != (1 : Int)) && (a0 != (2 : Int))))) (by kernel_rfl) (fun ht134 => ?_) (fun ht134 => ?_)
  ·
   have hs135 := ifT ht134 hs125
   replace ht134 : ((a2 = (0 : Int)) ∨ (a1 = true)) ∨ ((a0 ≠ (1 : Int)) ∧ (a0 ≠ (2 : Int))) := (orMap (bOrT ht134) (fun h => (orMap (bOrT h) (fun h => (bEqT h)) (fun h => h))) (fun h => ⟨(bNeT (bAndT h).1), (bNeT (bAndT h).2)⟩))
   refine CW.seq fun K136 hK136 => ?_
   refine CW.region ?_
   refine WR.batch 3 [(12, .int .u8 0), (13, .int .u64 0), (14, .bool false)] (by kernel_rfl) ?_
   refine WR.fin (by kernel_rfl) ?_
   refine go hK136 ?_
   refine CW.ret ?_
   exact retV (.tuple #[.int .u8 0, .int .u64 0, .bool false]) (by kernel_rfl) (⟨hC132, (congrArg (fun r : (Int × Int × Bool) => (.tuple #[.int .u8 r.1, .int .u64 r.2.1, .bool r.2.2] : Value)) hs135).symm⟩)
  have hs137 := ifF ht134 hs125
  replace ht134 : ((a2 ≠ (0 : Int)) ∧ (a1 = false)) ∧ ((a0 = (1 : Int)) ∨ (a0 = (2 : Int))) := ⟨⟨(bEqF (bOrF (bOrF ht134).1).1), (bOrF (bOrF ht134).1).2⟩, (orMap (bAndF (bOrF ht134).2) (fun h => (bNeF h)) (fun h => (bNeF h)))⟩
  refine CW.skip ?_
  refine go hK126 ?_
  refine CW.seq fun K138 hK138 => ?_
  refine CW.region ?_
  refine WR.batch 3 [(2, .int .u8 a2), (63, .int .u8 a0), (64, .int .u64 a3), (65, .int .u64 a5)] (by kernel_rfl) ?_
  obtain ⟨x139, hx140⟩ : ∃ x, alu_Do a0 false a3 a5 = x := ⟨_, rfl⟩
  have hs142 := letS hx140 hs137
  have hx143 : (0 ≤ x139.1 ∧ x139.1 ≤ 18446744073709551615) ∧ (-9223372036854775808 ≤ x139.2 ∧ x139.2 ≤ 9223372036854775807) := by rw [← hx140]; exact alu_Do_ok a0 false a3 a5 (by omega) (by omega) (by omega) 
  refine WR.call (dst := some 66) (by kernel_rfl) (retE (g := fun r : (Int × Int) => (.tuple #[.int .u64 r.1, .int .i64 r.2] : Value)) hx140 (alu_Do_any a0 false a3 a5 w130  (by omega) (by omega) (by omega) )) ?_
  rintro _ w144 hc145 rfl
  have hz147 := hc145.size
  have hC146 := hC132.pure hc145
  refine WR.batch 5 [(2, .int .u8 a2), (17, .int .u64 x139.1), (18, .int .i64 x139.2)] (by kernel_rfl) ?_
  refine WR.fin (by kernel_rfl) ?_
  refine go hK138 ?_
  refine CW.seq fun K148 hK148 => ?_
  refine CW.region ?_
  refine WR.batch 7 [(12, .int .u8 a2), (13, .int .u64 x139.1), (14, .bool (x139.2 == (0 : Int)))] (by kernel_rfl) ?_
  refine WR.fin (by kernel_rfl) ?_
  refine go hK148 ?_
  refine CW.ret ?_
  exact retV (.tuple #[.int .u8 a2, .int .u64 x139.1, .bool (x139.2 == (0 : Int))]) (by kernel_rfl) (⟨hC146, (congrArg (fun r : (Int × Int × Bool) => (.tuple #[.int .u8 r.1, .int .u64 r.2.1, .bool r.2.2] : Value)) hs142).symm⟩)
 have hs149 := ifF ht106 hs103
 replace ht106 : a0 ≠ (13 : Int) := (bEqF ht106)
 refine CW.skip ?_
 refine go hK104 ?_
 refine CW.seq fun K150 hK150 => ?_
 refine CW.seq fun K151 hK151 => ?_
 refine CW.region ?_
 refine WR.batch 2 [(0, .int .u8 a0), (1, .bool a1), (2, .int .u8 a2), (3, .int .u64 a3), (5, .int .u64 a5), (35, .bool (a4 != (1 : Int)))] (by kernel_rfl) ?_
 refine WR.fin (by kernel_rfl) ?_
 refine go hK151 ?_
 refine CW.cond ((a4 != (1 : Int))) (by kernel_rfl) (fun ht152 => ?_) (fun ht152 => ?_)
 ·
  have hs153 := ifT ht152 hs149
  replace ht152 : a4 ≠ (1 : Int) := (bNeT ht152)
  refine CW.seq fun K154 hK154 => ?_
  refine CW.region ?_
  refine WR.batch 3 [(12, .int .u8 0), (13, .int .u64 0), (14, .bool false)] (by kernel_rfl) ?_
  refine WR.fin (by kernel_rfl) ?_
  refine go hK154 ?_
  refine CW.ret ?_
  exact retV (.tuple #[.int .u8 0, .int .u64 0, .bool false]) (by kernel_rfl) (⟨(Chg.refl _ _), (congrArg (fun r : (Int × Int × Bool) => (.tuple #[.int .u8 r.1, .int .u64 r.2.1, .bool r.2.2] : Value)) hs153).symm⟩)
 have hs155 := ifF ht152 hs149
 replace ht152 : a4 = (1 : Int) := (bNeF ht152)
 refine CW.skip ?_
 refine go hK150 ?_
 refine CW.seq fun K156 hK156 => ?_
 refine CW.seq fun K157 hK157 => ?_
 refine CW.region ?_
 refine WR.batch 2 [(0, .int .u8 a0), (1, .bool a1), (2, .int .u8 a2), (3, .int .u64 a3), (5, .int .u64 a5), (37, .bool (a2 == (1 : Int)))] (by kernel_rfl) ?_
 refine WR.fin (by kernel_rfl) ?_
 refine go hK157 ?_
 refine CW.cond ((a2 == (1 : Int))) (by kernel_rfl) (fun ht158 => ?_) (fun ht158 => ?_)
 ·
  have hs159 := ifT ht158 hs155
  replace ht158 : a2 = (1 : Int) := (bEqT ht158)
  refine CW.seq fun K160 hK160 => ?_
  refine CW.region ?_
  refine WR.batch 4 [(39, .int .u8 a0), (40, .bool a1), (41, .int .u64 a3), (42, .int .u64 a5)] (by kernel_rfl) ?_
  obtain ⟨x161, hx162⟩ : ∃ x, alu_Do a0 a1 a3 a5 = x := ⟨_, rfl⟩
  have hs164 := letS hx162 hs159
  have hx165 : (0 ≤ x161.1 ∧ x161.1 ≤ 18446744073709551615) ∧ (-9223372036854775808 ≤ x161.2 ∧ x161.2 ≤ 9223372036854775807) := by rw [← hx162]; exact alu_Do_ok a0 a1 a3 a5 (by omega) (by omega) (by omega) 
  refine WR.call (dst := some 43) (by kernel_rfl) (retE (g := fun r : (Int × Int) => (.tuple #[.int .u64 r.1, .int .i64 r.2] : Value)) hx162 (alu_Do_any a0 a1 a3 a5 w  (by omega) (by omega) (by omega) )) ?_
  rintro _ w166 hc167 rfl
  have hz169 := hc167.size
  have hC168 := (Chg.refl [] w).pure hc167
  refine WR.batch 5 [(15, .int .u64 x161.1), (16, .int .i64 x161.2)] (by kernel_rfl) ?_
  refine WR.fin (by kernel_rfl) ?_
  refine go hK160 ?_
  refine CW.seq fun K170 hK170 => ?_
  refine CW.region ?_
  refine WR.batch 6 [(12, .int .u8 1), (13, .int .u64 x161.1), (14, .bool (x161.2 == (0 : Int)))] (by kernel_rfl) ?_
  refine WR.fin (by kernel_rfl) ?_
  refine go hK170 ?_
  refine CW.ret ?_
  exact retV (.tuple #[.int .u8 1, .int .u64 x161.1, .bool (x161.2 == (0 : Int))]) (by kernel_rfl) (⟨hC168, (congrArg (fun r : (Int × Int × Bool) => (.tuple #[.int .u8 r.1, .int .u64 r.2.1, .bool r.2.2] : Value)) hs164).symm⟩)
 have hs171 := ifF ht158 hs155
 replace ht158 : a2 ≠ (1 : Int) := (bEqF ht158)
 refine CW.skip ?_
 refine go hK156 ?_
 refine CW.seq fun K172 hK172 => ?_
 refine CW.seq fun K173 hK173 => ?_
 refine CW.region ?_
 refine WR.batch 3 [(0, .int .u8 a0), (1, .bool a1), (2, .int .u8 a2), (3, .int .u64 a3), (5, .int .u64 a5), (51, .bool (a2 == (0 : Int)))] (by kernel_rfl) ?_
 refine WR.batch 2 [(0, .int .u8 a0), (2, .int .u8 a2), (3, .int .u64 a3), (5, .int .u64 a5), (53, .bool ((a2 == (0 : Int)) || a1))] (by generalize (a2 == (0 : Int)) = b; cases b <;> kernel_rfl) ?_
 refine WR.batch 1 [(0, .int .u8 a0), (2, .int .u8 a2), (3, .int .u64 a3), (5, .int .u64 a5), (54, .bool ((a2 == (0 : Int)) || a1))] (by kernel_rfl) ?_
 refine WR.mergeW 13 [(0, .int .u8 a0), (2, .int .u8 a2), (3, .int .u64 a3), (5, .int .u64 a5), (61, .bool (((a2 == (0 : Int)) || a1) || ((a0 != (1 : Int)) && (a0 != (2 : Int)))))] (fun w' => Chg [] w w') (fun Q' => ?_) ?_
 ·
  cases hg174 : ((a2 == (0 : Int)) || a1)
  ·
   replace hg174 : (a2 ≠ (0 : Int)) ∧ (a1 = false) := ⟨(bEqF (bOrF hg174).1), (bOrF hg174).2⟩
   intro hM175
   refine WR.batch 3 [(0, .int .u8 a0), (2, .int .u8 a2), (3, .int .u64 a3), (5, .int .u64 a5), (54, .bool false), (57, .bool (a0 != (1 : Int)))] (by kernel_rfl) ?_
   refine WR.batch 3 [(0, .int .u8 a0), (2, .int .u8 a2), (3, .int .u64 a3), (5, .int .u64 a5), (54, .bool false), (60, .bool ((a0 != (1 : Int)) && (a0 != (2 : Int))))] (by generalize (a0 != (1 : Int)) = b; cases b <;> kernel_rfl) ?_
   refine WR.batch 1 [(0, .int .u8 a0), (2, .int .u8 a2), (3, .int .u64 a3), (5, .int .u64 a5), (61, .bool ((a0 != (1 : Int)) && (a0 != (2 : Int))))] (by kernel_rfl) ?_
   exact WR.keep [0, 2, 3, 5, 61] (by kernel_rfl) (hM175 _ (Chg.refl [] w))
  ·
   replace hg174 : (a2 = (0 : Int)) ∨ (a1 = true) := (orMap (bOrT hg174) (fun h => (bEqT h)) (fun h => h))
   intro hM175
   refine WR.batch 7 [(0, .int .u8 a0), (2, .int .u8 a2), (3, .int .u64 a3), (5, .int .u64 a5), (61, .bool true)] (by kernel_rfl) ?_
   exact WR.keep [0, 2, 3, 5, 61] (by kernel_rfl) (hM175 _ (Chg.refl [] w))
 intro w176 hc177
 have hz179 := hc177.size
 have hC178 := (Chg.refl [] w).pure hc177
 refine WR.fin (by kernel_rfl) ?_
 refine go hK173 ?_
 refine CW.cond ((((a2 == (0 : Int)) || a1) || ((a0 != (1 : Int)) && (a0 != (2 : Int))))) (by kernel_rfl) (fun ht180 => ?_) (fun ht180 => ?_)
 ·
  have hs181 := ifT ht180 hs171
  replace ht180 : ((a2 = (0 : Int)) ∨ (a1 = true)) ∨ ((a0 ≠ (1 : Int)) ∧ (a0 ≠ (2 : Int))) := (orMap (bOrT ht180) (fun h => (orMap (bOrT h) (fun h => (bEqT h)) (fun h => h))) (fun h => ⟨(bNeT (bAndT h).1), (bNeT (bAndT h).2)⟩))
  refine CW.seq fun K182 hK182 => ?_
  refine CW.region ?_
  refine WR.batch 3 [(12, .int .u8 0), (13, .int .u64 0), (14, .bool false)] (by kernel_rfl) ?_
  refine WR.fin (by kernel_rfl) ?_
  refine go hK182 ?_
  refine CW.ret ?_
  exact retV (.tuple #[.int .u8 0, .int .u64 0, .bool false]) (by kernel_rfl) (⟨hC178, (congrArg (fun r : (Int × Int × Bool) => (.tuple #[.int .u8 r.1, .int .u64 r.2.1, .bool r.2.2] : Value)) hs181).symm⟩)
 have hs183 := ifF ht180 hs171
 replace ht180 : ((a2 ≠ (0 : Int)) ∧ (a1 = false)) ∧ ((a0 = (1 : Int)) ∨ (a0 = (2 : Int))) := ⟨⟨(bEqF (bOrF (bOrF ht180).1).1), (bOrF (bOrF ht180).1).2⟩, (orMap (bAndF (bOrF ht180).2) (fun h => (bNeF h)) (fun h => (bNeF h)))⟩
 refine CW.skip ?_
 refine go hK172 ?_
 refine CW.seq fun K184 hK184 => ?_
 refine CW.region ?_
 refine WR.batch 3 [(2, .int .u8 a2), (63, .int .u8 a0), (64, .int .u64 a3), (65, .int .u64 a5)] (by kernel_rfl) ?_
 obtain ⟨x185, hx186⟩ : ∃ x, alu_Do a0 false a3 a5 = x := ⟨_, rfl⟩
 have hs188 := letS hx186 hs183
 have hx189 : (0 ≤ x185.1 ∧ x185.1 ≤ 18446744073709551615) ∧ (-9223372036854775808 ≤ x185.2 ∧ x185.2 ≤ 9223372036854775807) := by rw [← hx186]; exact alu_Do_ok a0 false a3 a5 (by omega) (by omega) (by omega) 
 refine WR.call (dst := some 66) (by kernel_rfl) (retE (g := fun r : (Int × Int) => (.tuple #[.int .u64 r.1, .int .i64 r.2] : Value)) hx186 (alu_Do_any a0 false a3 a5 w176  (by omega) (by omega) (by omega) )) ?_
 rintro _ w190 hc191 rfl
 have hz193 := hc191.size
 have hC192 := hC178.pure hc191
 refine WR.batch 5 [(2, .int .u8 a2), (17, .int .u64 x185.1), (18, .int .i64 x185.2)] (by kernel_rfl) ?_
 refine WR.fin (by kernel_rfl) ?_
 refine go hK184 ?_
 refine CW.seq fun K194 hK194 => ?_
 refine CW.region ?_
 refine WR.batch 7 [(12, .int .u8 a2), (13, .int .u64 x185.1), (14, .bool (x185.2 == (0 : Int)))] (by kernel_rfl) ?_
 refine WR.fin (by kernel_rfl) ?_
 refine go hK194 ?_
 refine CW.ret ?_
 exact retV (.tuple #[.int .u8 a2, .int .u64 x185.1, .bool (x185.2 == (0 : Int))]) (by kernel_rfl) (⟨hC192, (congrArg (fun r : (Int × Int × Bool) => (.tuple #[.int .u8 r.1, .int .u64 r.2.1, .bool r.2.2] : Value)) hs188).symm⟩)

def law12_KindSound (a0 : Int) (a1 : Bool) (a2 : TKnown) (a3 : Int) (a4 : TKnown) (a5 : Int) (a6 : Int) (a7 : Int) (a8 : Int)  : Bool := (letF (law12_awake) fun x26 => (if (!x26) then false else (if ((((((decide (a8 < (0 : Int))) || (decide (a8 > (65535 : Int)))) || (!(kind_Holds a2 a6 a3 a8))) || (!(kind_Holds a4 a7 a5 a8))) || (decide (a6 > (3 : Int)))) || (decide (a7 > (3 : Int)))) then true else (letF (kind_Do a0 a1 a2 a4) fun x74 => (if (x74.2 != (0 : Int)) then ((x74.1.Kind == (0 : Int)) && ((x74.1.In.Lo == (0 : Int)) && (x74.1.In.Hi == (0 : Int)))) else (letF (law12_made a0 a1 a6 a3 a7 a5) fun x113 => (x113.2.2 && (kind_Holds x74.1 x113.1 x113.2.1 a8))))))))

set_option maxHeartbeats 4000000 in
theorem law12_KindSound_any (a0 : Int) (a1 : Bool) (a2 : TKnown) (a3 : Int) (a4 : TKnown) (a5 : Int) (a6 : Int) (a7 : Int) (a8 : Int)   (w : World)  (_h_a0 : (0 ≤ a0 ∧ a0 ≤ 255)) (_h_a2 : (0 ≤ a2.Kind ∧ a2.Kind ≤ 255) ∧ (0 ≤ a2.In.Lo ∧ a2.In.Lo ≤ 18446744073709551615) ∧ (0 ≤ a2.In.Hi ∧ a2.In.Hi ≤ 18446744073709551615)) (_h_a3 : (0 ≤ a3 ∧ a3 ≤ 18446744073709551615)) (_h_a4 : (0 ≤ a4.Kind ∧ a4.Kind ≤ 255) ∧ (0 ≤ a4.In.Lo ∧ a4.In.Lo ≤ 18446744073709551615) ∧ (0 ≤ a4.In.Hi ∧ a4.In.Hi ≤ 18446744073709551615)) (_h_a5 : (0 ≤ a5 ∧ a5 ≤ 18446744073709551615)) (_h_a6 : (0 ≤ a6 ∧ a6 ≤ 255)) (_h_a7 : (0 ≤ a7 ∧ a7 ≤ 255)) (_h_a8 : (-9223372036854775808 ≤ a8 ∧ a8 ≤ 9223372036854775807))  : Calls Try.prog 10 #[.int .u8 a0, .bool a1, .agg #[.int .u8 a2.Kind, .int .u64 a2.In.Lo, .int .u64 a2.In.Hi], .int .u64 a3, .agg #[.int .u8 a4.Kind, .int .u64 a4.In.Lo, .int .u64 a4.In.Hi], .int .u64 a5, .int .u8 a6, .int .u8 a7, .int .i64 a8] w (RetV w (.bool (law12_KindSound a0 a1 a2 a3 a4 a5 a6 a7 a8))) := by
 have hs := law12_KindSound.eq_1 a0 a1 a2 a3 a4 a5 a6 a7 a8
 refine calls_of_CW Try.func10 rfl (n := 88) Try.ntmps10 (by kernel_rfl) [0, 1, 2, 3, 4, 5, 6, 7, 8] (F := [(0, .int .u8 a0), (1, .bool a1), (2, .agg #[.int .u8 a2.Kind, .int .u64 a2.In.Lo, .int .u64 a2.In.Hi]), (3, .int .u64 a3), (4, .agg #[.int .u8 a4.Kind, .int .u64 a4.In.Lo, .int .u64 a4.In.Hi]), (5, .int .u64 a5), (6, .int .u8 a6), (7, .int .u8 a7), (8, .int .i64 a8)]) (by kernel_rfl) ?_
 refine CW.seq fun K1 hK1 => ?_
 refine CW.region ?_
 refine WR.box (dst := some 11) (e := 56) (v := .agg #[.int .u8 a2.Kind, .int .u64 a2.In.Lo, .int .u64 a2.In.Hi]) (by kernel_rfl) #[.int .u8 a2.Kind, .int .u64 a2.In.Lo, .int .u64 a2.In.Hi] (by kernel_rfl) ?_
 intro g2 w3 hN4
 have hf6 : w.heap.size ≤ g2 := hN4.fresh
 have hfr8 := hN4.fresh
 have hc7 := hN4.chg
 have hz10 := hc7.size
 have hC9 := (Chg.refl [] w).pure hc7
 have hb5 := hN4.blk
 have hg11 := hb5.lt
 refine WR.box (dst := some 13) (e := 56) (v := .agg #[.int .u8 a4.Kind, .int .u64 a4.In.Lo, .int .u64 a4.In.Hi]) (by kernel_rfl) #[.int .u8 a4.Kind, .int .u64 a4.In.Lo, .int .u64 a4.In.Hi] (by kernel_rfl) ?_
 intro g12 w13 hN14
 have hl17 : g2 < g12 := Nat.lt_of_lt_of_le hb5.lt hN14.fresh
 have hf16 : w.heap.size ≤ g12 := Nat.le_trans hC9.size hN14.fresh
 have hfr19 := hN14.fresh
 have hc18 := hN14.chg
 have hz21 := hc18.size
 have hC20 := hC9.pure hc18
 have hb22 := hb5.pure hc18
 have hb15 := hN14.blk
 have hg23 := hb15.lt
 refine WR.batch 1 [(0, .int .u8 a0), (1, .bool a1), (3, .int .u64 a3), (5, .int .u64 a5), (6, .int .u8 a6), (7, .int .u8 a7), (8, .int .i64 a8), (11, pt g2 0), (13, pt g12 0)] (by kernel_rfl) ?_
 refine WR.fin (by kernel_rfl) ?_
 refine go hK1 ?_
 refine CW.seq fun K24 hK24 => ?_
 refine CW.seq fun K25 hK25 => ?_
 refine CW.region ?_
 obtain ⟨x26, hx27⟩ : ∃ x, law12_awake = x := ⟨_, rfl⟩
 have hs28 := letS hx27 hs
 refine WR.call (dst := some 24) (by kernel_rfl) (retE (g := fun r : Bool => (.bool r : Value)) hx27 (law12_awake_any  w13  )) ?_
 rintro _ w29 hc30 rfl
 have hz32 := hc30.size
 have hC31 := hC20.pure hc30
 have hb33 := hb22.pure hc30
 have hb34 := hb15.pure hc30
 refine WR.batch 1 [(0, .int .u8 a0), (1, .bool a1), (3, .int .u64 a3), (5, .int .u64 a5), (6, .int .u8 a6), (7, .int .u8 a7), (8, .int .i64 a8), (11, pt g2 0), (13, pt g12 0), (25, .bool (!x26))] (by kernel_rfl) ?_
 refine WR.fin (by kernel_rfl) ?_
 refine go hK25 ?_
 refine CW.cond ((!x26)) (by kernel_rfl) (fun ht35 => ?_) (fun ht35 => ?_)
 ·
  have hs36 := ifT ht35 hs28
  replace ht35 : x26 = false := (bNotT ht35)
  refine CW.seq fun K37 hK37 => ?_
  refine CW.region ?_
  refine WR.batch 1 [(18, .bool false)] (by kernel_rfl) ?_
  refine WR.fin (by kernel_rfl) ?_
  refine go hK37 ?_
  refine CW.ret ?_
  exact retV (.bool false) (by kernel_rfl) (⟨hC31, (congrArg (fun r : Bool => (.bool r : Value)) hs36).symm⟩)
 have hs38 := ifF ht35 hs28
 replace ht35 : x26 = true := (bNotF ht35)
 refine CW.skip ?_
 refine go hK24 ?_
 refine CW.seq fun K39 hK39 => ?_
 refine CW.seq fun K40 hK40 => ?_
 refine CW.region ?_
 refine WR.batch 3 [(0, .int .u8 a0), (1, .bool a1), (3, .int .u64 a3), (5, .int .u64 a5), (6, .int .u8 a6), (7, .int .u8 a7), (8, .int .i64 a8), (11, pt g2 0), (13, pt g12 0), (28, .bool (decide (a8 < (0 : Int))))] (by kernel_rfl) ?_
 refine WR.batch 3 [(0, .int .u8 a0), (1, .bool a1), (3, .int .u64 a3), (5, .int .u64 a5), (6, .int .u8 a6), (7, .int .u8 a7), (8, .int .i64 a8), (11, pt g2 0), (13, pt g12 0), (31, .bool ((decide (a8 < (0 : Int))) || (decide (a8 > (65535 : Int)))))] (by generalize decide (a8 < (0 : Int)) = b; cases b <;> kernel_rfl) ?_
 refine WR.batch 1 [(0, .int .u8 a0), (1, .bool a1), (3, .int .u64 a3), (5, .int .u64 a5), (6, .int .u8 a6), (7, .int .u8 a7), (8, .int .i64 a8), (11, pt g2 0), (13, pt g12 0), (32, .bool ((decide (a8 < (0 : Int))) || (decide (a8 > (65535 : Int)))))] (by kernel_rfl) ?_
 refine WR.mergeW 14 [(0, .int .u8 a0), (1, .bool a1), (3, .int .u64 a3), (5, .int .u64 a5), (6, .int .u8 a6), (7, .int .u8 a7), (8, .int .i64 a8), (11, pt g2 0), (13, pt g12 0), (39, .bool (((decide (a8 < (0 : Int))) || (decide (a8 > (65535 : Int)))) || (!(kind_Holds a2 a6 a3 a8))))] (fun w' => Chg [] w29 w') (fun Q' => ?_) ?_
 ·
  cases hg41 : ((decide (a8 < (0 : Int))) || (decide (a8 > (65535 : Int))))
  ·
   replace hg41 : (¬ (a8 < (0 : Int))) ∧ (¬ (a8 > (65535 : Int))) := ⟨(of_decide_eq_false (bOrF hg41).1), (of_decide_eq_false (bOrF hg41).2)⟩
   intro hM42
   refine WR.load (dst := some 33) (t := 56) (o := 0) hb33 (by kernel_rfl) (.agg #[.int .u8 a2.Kind, .int .u64 a2.In.Lo, .int .u64 a2.In.Hi]) (by kernel_rfl) ?_
   refine WR.batch 3 [(0, .int .u8 a0), (1, .bool a1), (3, .int .u64 a3), (5, .int .u64 a5), (6, .int .u8 a6), (7, .int .u8 a7), (8, .int .i64 a8), (11, pt g2 0), (13, pt g12 0), (32, .bool false), (33, .agg #[.int .u8 a2.Kind, .int .u64 a2.In.Lo, .int .u64 a2.In.Hi]), (34, .int .u8 a6), (35, .int .u64 a3), (36, .int .i64 a8)] (by kernel_rfl) ?_
   refine WR.call (dst := some 37) (by kernel_rfl) (kind_Holds_any a2 a6 a3 a8 w29  ⟨(by omega), (by omega), (by omega)⟩ (by omega) (by omega) (by omega) ) ?_
   rintro _ w43 hc44 rfl
   have hz46 := hc44.size
   have hC45 := hC31.pure hc44
   have hb47 := hb33.pure hc44
   have hb48 := hb34.pure hc44
   refine WR.batch 2 [(0, .int .u8 a0), (1, .bool a1), (3, .int .u64 a3), (5, .int .u64 a5), (6, .int .u8 a6), (7, .int .u8 a7), (8, .int .i64 a8), (11, pt g2 0), (13, pt g12 0), (39, .bool (!(kind_Holds a2 a6 a3 a8)))] (by kernel_rfl) ?_
   exact WR.keep [0, 1, 3, 5, 6, 7, 8, 11, 13, 39] (by kernel_rfl) (hM42 _ ((Chg.refl [] w29).pure hc44))
  ·
   replace hg41 : (a8 < (0 : Int)) ∨ (a8 > (65535 : Int)) := (orMap (bOrT hg41) (fun h => (of_decide_eq_true h)) (fun h => (of_decide_eq_true h)))
   intro hM42
   refine WR.batch 7 [(0, .int .u8 a0), (1, .bool a1), (3, .int .u64 a3), (5, .int .u64 a5), (6, .int .u8 a6), (7, .int .u8 a7), (8, .int .i64 a8), (11, pt g2 0), (13, pt g12 0), (39, .bool true)] (by kernel_rfl) ?_
   exact WR.keep [0, 1, 3, 5, 6, 7, 8, 11, 13, 39] (by kernel_rfl) (hM42 _ (Chg.refl [] w29))
 intro w49 hc50
 have hz52 := hc50.size
 have hC51 := hC31.pure hc50
 have hb53 := hb33.pure hc50
 have hb54 := hb34.pure hc50
 refine WR.batch 1 [(0, .int .u8 a0), (1, .bool a1), (3, .int .u64 a3), (5, .int .u64 a5), (6, .int .u8 a6), (7, .int .u8 a7), (8, .int .i64 a8), (11, pt g2 0), (13, pt g12 0), (40, .bool (((decide (a8 < (0 : Int))) || (decide (a8 > (65535 : Int)))) || (!(kind_Holds a2 a6 a3 a8))))] (by kernel_rfl) ?_
 refine WR.mergeW 22 [(0, .int .u8 a0), (1, .bool a1), (3, .int .u64 a3), (5, .int .u64 a5), (6, .int .u8 a6), (7, .int .u8 a7), (8, .int .i64 a8), (11, pt g2 0), (13, pt g12 0), (47, .bool ((((decide (a8 < (0 : Int))) || (decide (a8 > (65535 : Int)))) || (!(kind_Holds a2 a6 a3 a8))) || (!(kind_Holds a4 a7 a5 a8))))] (fun w' => Chg [] w49 w') (fun Q' => ?_) ?_
 ·
  cases hg55 : (((decide (a8 < (0 : Int))) || (decide (a8 > (65535 : Int)))) || (!(kind_Holds a2 a6 a3 a8)))
  ·
   replace hg55 : ((¬ (a8 < (0 : Int))) ∧ (¬ (a8 > (65535 : Int)))) ∧ ((kind_Holds a2 a6 a3 a8) = true) := ⟨⟨(of_decide_eq_false (bOrF (bOrF hg55).1).1), (of_decide_eq_false (bOrF (bOrF hg55).1).2)⟩, (bNotF (bOrF hg55).2)⟩
   intro hM56
   refine WR.load (dst := some 41) (t := 56) (o := 0) hb54 (by kernel_rfl) (.agg #[.int .u8 a4.Kind, .int .u64 a4.In.Lo, .int .u64 a4.In.Hi]) (by kernel_rfl) ?_
   refine WR.batch 3 [(0, .int .u8 a0), (1, .bool a1), (3, .int .u64 a3), (5, .int .u64 a5), (6, .int .u8 a6), (7, .int .u8 a7), (8, .int .i64 a8), (11, pt g2 0), (13, pt g12 0), (40, .bool false), (41, .agg #[.int .u8 a4.Kind, .int .u64 a4.In.Lo, .int .u64 a4.In.Hi]), (42, .int .u8 a7), (43, .int .u64 a5), (44, .int .i64 a8)] (by kernel_rfl) ?_
   refine WR.call (dst := some 45) (by kernel_rfl) (kind_Holds_any a4 a7 a5 a8 w49  ⟨(by omega), (by omega), (by omega)⟩ (by omega) (by omega) (by omega) ) ?_
   rintro _ w57 hc58 rfl
   have hz60 := hc58.size
   have hC59 := hC51.pure hc58
   have hb61 := hb53.pure hc58
   have hb62 := hb54.pure hc58
   refine WR.batch 2 [(0, .int .u8 a0), (1, .bool a1), (3, .int .u64 a3), (5, .int .u64 a5), (6, .int .u8 a6), (7, .int .u8 a7), (8, .int .i64 a8), (11, pt g2 0), (13, pt g12 0), (47, .bool (!(kind_Holds a4 a7 a5 a8)))] (by kernel_rfl) ?_
   exact WR.keep [0, 1, 3, 5, 6, 7, 8, 11, 13, 47] (by kernel_rfl) (hM56 _ ((Chg.refl [] w49).pure hc58))
  ·
   replace hg55 : ((a8 < (0 : Int)) ∨ (a8 > (65535 : Int))) ∨ ((kind_Holds a2 a6 a3 a8) = false) := (orMap (bOrT hg55) (fun h => (orMap (bOrT h) (fun h => (of_decide_eq_true h)) (fun h => (of_decide_eq_true h)))) (fun h => (bNotT h)))
   intro hM56
   refine WR.batch 7 [(0, .int .u8 a0), (1, .bool a1), (3, .int .u64 a3), (5, .int .u64 a5), (6, .int .u8 a6), (7, .int .u8 a7), (8, .int .i64 a8), (11, pt g2 0), (13, pt g12 0), (47, .bool true)] (by kernel_rfl) ?_
   exact WR.keep [0, 1, 3, 5, 6, 7, 8, 11, 13, 47] (by kernel_rfl) (hM56 _ (Chg.refl [] w49))
 intro w63 hc64
 have hz66 := hc64.size
 have hC65 := hC51.pure hc64
 have hb67 := hb53.pure hc64
 have hb68 := hb54.pure hc64
 refine WR.batch 1 [(0, .int .u8 a0), (1, .bool a1), (3, .int .u64 a3), (5, .int .u64 a5), (6, .int .u8 a6), (7, .int .u8 a7), (8, .int .i64 a8), (11, pt g2 0), (13, pt g12 0), (48, .bool ((((decide (a8 < (0 : Int))) || (decide (a8 > (65535 : Int)))) || (!(kind_Holds a2 a6 a3 a8))) || (!(kind_Holds a4 a7 a5 a8))))] (by kernel_rfl) ?_
 refine WR.batch 3 [(0, .int .u8 a0), (1, .bool a1), (3, .int .u64 a3), (5, .int .u64 a5), (6, .int .u8 a6), (7, .int .u8 a7), (8, .int .i64 a8), (11, pt g2 0), (13, pt g12 0), (51, .bool (((((decide (a8 < (0 : Int))) || (decide (a8 > (65535 : Int)))) || (!(kind_Holds a2 a6 a3 a8))) || (!(kind_Holds a4 a7 a5 a8))) || (decide (a6 > (3 : Int)))))] (by generalize ((((decide (a8 < (0 : Int))) || (decide (a8 > (65535 : Int)))) || (!(kind_Holds a2 a6 a3 a8))) || (!(kind_Holds a4 a7 a5 a8))) = b; cases b <;> kernel_rfl) ?_
 refine WR.batch 1 [(0, .int .u8 a0), (1, .bool a1), (3, .int .u64 a3), (5, .int .u64 a5), (6, .int .u8 a6), (7, .int .u8 a7), (8, .int .i64 a8), (11, pt g2 0), (13, pt g12 0), (52, .bool (((((decide (a8 < (0 : Int))) || (decide (a8 > (65535 : Int)))) || (!(kind_Holds a2 a6 a3 a8))) || (!(kind_Holds a4 a7 a5 a8))) || (decide (a6 > (3 : Int)))))] (by kernel_rfl) ?_
 refine WR.batch 3 [(0, .int .u8 a0), (1, .bool a1), (3, .int .u64 a3), (5, .int .u64 a5), (6, .int .u8 a6), (7, .int .u8 a7), (8, .int .i64 a8), (11, pt g2 0), (13, pt g12 0), (55, .bool ((((((decide (a8 < (0 : Int))) || (decide (a8 > (65535 : Int)))) || (!(kind_Holds a2 a6 a3 a8))) || (!(kind_Holds a4 a7 a5 a8))) || (decide (a6 > (3 : Int)))) || (decide (a7 > (3 : Int)))))] (by generalize (((((decide (a8 < (0 : Int))) || (decide (a8 > (65535 : Int)))) || (!(kind_Holds a2 a6 a3 a8))) || (!(kind_Holds a4 a7 a5 a8))) || (decide (a6 > (3 : Int)))) = b; cases b <;> kernel_rfl) ?_
 refine WR.fin (by kernel_rfl) ?_
 refine go hK40 ?_
 refine CW.cond (((((((decide (a8 < (0 : Int))) || (decide (a8 > (65535 : Int)))) || (!(kind_Holds a2 a6 a3 a8))) || (!(kind_Holds a4 a7 a5 a8))) || (decide (a6 > (3 : Int)))) || (decide (a7 > (3 : Int))))) (by kernel_rfl) (fun ht69 => ?_) (fun ht69 => ?_)
 ·
  have hs70 := ifT ht69 hs38
  replace ht69 : (((((a8 < (0 : Int)) ∨ (a8 > (65535 : Int))) ∨ ((kind_Holds a2 a6 a3 a8) = false)) ∨ ((kind_Holds a4 a7 a5 a8) = false)) ∨ (a6 > (3 : Int))) ∨ (a7 > (3 : Int)) := (orMap (bOrT ht69) (fun h => (orMap (bOrT h) (fun h => (orMap (bOrT h) (fun h => (orMap (bOrT h) (fun h => (orMap (bOrT h) (fun h => (of_decide_eq_true h)) (fun h => (of_decide_eq_true h)))) (fun h => (bNotT h)))) (fun h => (bNotT h)))) (fun h => (of_decide_eq_true h)))) (fun h => (of_decide_eq_true h)))
  refine CW.seq fun K71 hK71 => ?_
  refine CW.region ?_
  refine WR.batch 1 [(18, .bool true)] (by kernel_rfl) ?_
  refine WR.fin (by kernel_rfl) ?_
  refine go hK71 ?_
  refine CW.ret ?_
  exact retV (.bool true) (by kernel_rfl) (⟨hC65, (congrArg (fun r : Bool => (.bool r : Value)) hs70).symm⟩)
 have hs72 := ifF ht69 hs38
 replace ht69 : (((((¬ (a8 < (0 : Int))) ∧ (¬ (a8 > (65535 : Int)))) ∧ ((kind_Holds a2 a6 a3 a8) = true)) ∧ ((kind_Holds a4 a7 a5 a8) = true)) ∧ (¬ (a6 > (3 : Int)))) ∧ (¬ (a7 > (3 : Int))) := ⟨⟨⟨⟨⟨(of_decide_eq_false (bOrF (bOrF (bOrF (bOrF (bOrF ht69).1).1).1).1).1), (of_decide_eq_false (bOrF (bOrF (bOrF (bOrF (bOrF ht69).1).1).1).1).2)⟩, (bNotF (bOrF (bOrF (bOrF (bOrF ht69).1).1).1).2)⟩, (bNotF (bOrF (bOrF (bOrF ht69).1).1).2)⟩, (of_decide_eq_false (bOrF (bOrF ht69).1).2)⟩, (of_decide_eq_false (bOrF ht69).2)⟩
 refine CW.skip ?_
 refine go hK39 ?_
 refine CW.seq fun K73 hK73 => ?_
 refine CW.region ?_
 refine WR.batch 2 [(0, .int .u8 a0), (1, .bool a1), (3, .int .u64 a3), (5, .int .u64 a5), (6, .int .u8 a6), (7, .int .u8 a7), (8, .int .i64 a8), (11, pt g2 0), (13, pt g12 0), (57, .int .u8 a0), (58, .bool a1)] (by kernel_rfl) ?_
 refine WR.load (dst := some 59) (t := 56) (o := 0) hb67 (by kernel_rfl) (.agg #[.int .u8 a2.Kind, .int .u64 a2.In.Lo, .int .u64 a2.In.Hi]) (by kernel_rfl) ?_
 refine WR.load (dst := some 60) (t := 56) (o := 0) hb68 (by kernel_rfl) (.agg #[.int .u8 a4.Kind, .int .u64 a4.In.Lo, .int .u64 a4.In.Hi]) (by kernel_rfl) ?_
 obtain ⟨x74, hx75⟩ : ∃ x, kind_Do a0 a1 a2 a4 = x := ⟨_, rfl⟩
 have hs77 := letS hx75 hs72
 have hx78 : (0 ≤ x74.1.Kind ∧ x74.1.Kind ≤ 255) ∧ (0 ≤ x74.1.In.Lo ∧ x74.1.In.Lo ≤ 18446744073709551615) ∧ (0 ≤ x74.1.In.Hi ∧ x74.1.In.Hi ≤ 18446744073709551615) ∧ (-9223372036854775808 ≤ x74.2 ∧ x74.2 ≤ 9223372036854775807) := by rw [← hx75]; exact kind_Do_ok a0 a1 a2 a4 (by omega) ⟨(by omega), (by omega), (by omega)⟩ ⟨(by omega), (by omega), (by omega)⟩ 
 refine WR.call (dst := some 61) (by kernel_rfl) (retE (g := fun r : (TKnown × Int) => (.tuple #[.agg #[.int .u8 r.1.Kind, .int .u64 r.1.In.Lo, .int .u64 r.1.In.Hi], .int .i64 r.2] : Value)) hx75 (kind_Do_any a0 a1 a2 a4 w63  (by omega) ⟨(by omega), (by omega), (by omega)⟩ ⟨(by omega), (by omega), (by omega)⟩ )) ?_
 rintro _ w79 hc80 rfl
 have hz82 := hc80.size
 have hC81 := hC65.pure hc80
 have hb83 := hb67.pure hc80
 have hb84 := hb68.pure hc80
 refine WR.batch 3 [(0, .int .u8 a0), (1, .bool a1), (3, .int .u64 a3), (5, .int .u64 a5), (6, .int .u8 a6), (7, .int .u8 a7), (8, .int .i64 a8), (62, .agg #[.int .u8 x74.1.Kind, .int .u64 x74.1.In.Lo, .int .u64 x74.1.In.Hi]), (63, .int .i64 x74.2)] (by kernel_rfl) ?_
 refine WR.alloc (dst := some 19) (e := 56) (by kernel_rfl) #[.int .u8 0, .int .u64 0, .int .u64 0] (by kernel_rfl) ?_
 intro g85 w86 hN87
 have hl90 : g2 < g85 := Nat.lt_of_lt_of_le hb83.lt hN87.fresh
 have hl91 : g12 < g85 := Nat.lt_of_lt_of_le hb84.lt hN87.fresh
 have hf89 : w.heap.size ≤ g85 := Nat.le_trans hC81.size hN87.fresh
 have hfr93 := hN87.fresh
 have hc92 := hN87.chg
 have hz95 := hc92.size
 have hC94 := hC81.pure hc92
 have hb96 := hb83.pure hc92
 have hb97 := hb84.pure hc92
 have hb88 := hN87.blk
 have hg98 := hb88.lt
 refine WR.store (t := 56) (o := 0) (v := .agg #[.int .u8 x74.1.Kind, .int .u64 x74.1.In.Lo, .int .u64 x74.1.In.Hi]) hb88 (by kernel_rfl) #[.int .u8 x74.1.Kind, .int .u64 x74.1.In.Lo, .int .u64 x74.1.In.Hi] (by kernel_rfl) ?_
 intro w99 hb100 hc101
 have hz103 := hc101.size
 have hC102 := hC94.step1 hc101 (by omega)
 have hb104 := hb96.chg1 hc101 (by omega)
 have hb105 := hb97.chg1 hc101 (by omega)
 refine WR.batch 1 [(0, .int .u8 a0), (1, .bool a1), (3, .int .u64 a3), (5, .int .u64 a5), (6, .int .u8 a6), (7, .int .u8 a7), (8, .int .i64 a8), (19, pt g85 0), (20, .int .i64 x74.2)] (by kernel_rfl) ?_
 refine WR.fin (by kernel_rfl) ?_
 refine go hK73 ?_
 refine CW.seq fun K106 hK106 => ?_
 refine CW.seq fun K107 hK107 => ?_
 refine CW.region ?_
 refine WR.batch 2 [(0, .int .u8 a0), (1, .bool a1), (3, .int .u64 a3), (5, .int .u64 a5), (6, .int .u8 a6), (7, .int .u8 a7), (8, .int .i64 a8), (19, pt g85 0), (65, .bool (x74.2 != (0 : Int)))] (by kernel_rfl) ?_
 refine WR.fin (by kernel_rfl) ?_
 refine go hK107 ?_
 refine CW.cond ((x74.2 != (0 : Int))) (by kernel_rfl) (fun ht108 => ?_) (fun ht108 => ?_)
 ·
  have hs109 := ifT ht108 hs77
  replace ht108 : x74.2 ≠ (0 : Int) := (bNeT ht108)
  refine CW.seq fun K110 hK110 => ?_
  refine CW.region ?_
  refine WR.load (dst := some 66) (t := 56) (o := 0) hb100 (by kernel_rfl) (.agg #[.int .u8 x74.1.Kind, .int .u64 x74.1.In.Lo, .int .u64 x74.1.In.Hi]) (by kernel_rfl) ?_
  refine WR.batch 1 [(66, .agg #[.int .u8 x74.1.Kind, .int .u64 x74.1.In.Lo, .int .u64 x74.1.In.Hi]), (67, .agg #[.int .u8 0, .int .u64 0, .int .u64 0])] (by kernel_rfl) ?_
  refine WR.valR (dst := some 68) (v := .bool ((x74.1.Kind == (0 : Int)) && ((x74.1.In.Lo == (0 : Int)) && (x74.1.In.Hi == (0 : Int))))) (w' := w99) (run_eqS (t := 56) (xs := #[.int .u8 x74.1.Kind, .int .u64 x74.1.In.Lo, .int .u64 x74.1.In.Hi]) (ys := #[.int .u8 0, .int .u64 0, .int .u64 0]) (neg := false) (b := ((x74.1.Kind == (0 : Int)) && ((x74.1.In.Lo == (0 : Int)) && (x74.1.In.Hi == (0 : Int))))) (by kernel_rfl) (by kernel_rfl) (by kernel_rfl) w99) ?_
  refine WR.batch 1 [(18, .bool ((x74.1.Kind == (0 : Int)) && ((x74.1.In.Lo == (0 : Int)) && (x74.1.In.Hi == (0 : Int)))))] (by kernel_rfl) ?_
  refine WR.fin (by kernel_rfl) ?_
  refine go hK110 ?_
  refine CW.ret ?_
  exact retV (.bool ((x74.1.Kind == (0 : Int)) && ((x74.1.In.Lo == (0 : Int)) && (x74.1.In.Hi == (0 : Int))))) (by kernel_rfl) (⟨hC102, (congrArg (fun r : Bool => (.bool r : Value)) hs109).symm⟩)
 have hs111 := ifF ht108 hs77
 replace ht108 : x74.2 = (0 : Int) := (bNeF ht108)
 refine CW.skip ?_
 refine go hK106 ?_
 refine CW.seq fun K112 hK112 => ?_
 refine CW.region ?_
 refine WR.batch 6 [(8, .int .i64 a8), (19, pt g85 0), (70, .int .u8 a0), (71, .bool a1), (72, .int .u8 a6), (73, .int .u64 a3), (74, .int .u8 a7), (75, .int .u64 a5)] (by kernel_rfl) ?_
 obtain ⟨x113, hx114⟩ : ∃ x, law12_made a0 a1 a6 a3 a7 a5 = x := ⟨_, rfl⟩
 have hs116 := letS hx114 hs111
 have hx117 : (0 ≤ x113.1 ∧ x113.1 ≤ 255) ∧ (0 ≤ x113.2.1 ∧ x113.2.1 ≤ 18446744073709551615) := by rw [← hx114]; exact law12_made_ok a0 a1 a6 a3 a7 a5 (by omega) (by omega) (by omega) (by omega) (by omega) 
 refine WR.call (dst := some 76) (by kernel_rfl) (retE (g := fun r : (Int × Int × Bool) => (.tuple #[.int .u8 r.1, .int .u64 r.2.1, .bool r.2.2] : Value)) hx114 (law12_made_any a0 a1 a6 a3 a7 a5 w99  (by omega) (by omega) (by omega) (by omega) (by omega) )) ?_
 rintro _ w118 hc119 rfl
 have hz121 := hc119.size
 have hC120 := hC102.pure hc119
 have hb122 := hb104.pure hc119
 have hb123 := hb105.pure hc119
 have hb124 := hb100.pure hc119
 refine WR.batch 7 [(8, .int .i64 a8), (19, pt g85 0), (21, .int .u8 x113.1), (22, .int .u64 x113.2.1), (23, .bool x113.2.2)] (by kernel_rfl) ?_
 refine WR.fin (by kernel_rfl) ?_
 refine go hK112 ?_
 refine CW.seq fun K125 hK125 => ?_
 refine CW.region ?_
 refine WR.batch 2 [(8, .int .i64 a8), (19, pt g85 0), (21, .int .u8 x113.1), (22, .int .u64 x113.2.1), (81, .bool x113.2.2)] (by kernel_rfl) ?_
 refine WR.mergeW 8 [(87, .bool (x113.2.2 && (kind_Holds x74.1 x113.1 x113.2.1 a8)))] (fun w' => Chg [] w118 w') (fun Q' => ?_) ?_
 ·
  cases hg126 : x113.2.2
  ·
   intro hM127
   refine WR.batch 6 [(87, .bool false)] (by kernel_rfl) ?_
   exact WR.keep [87] (by kernel_rfl) (hM127 _ (Chg.refl [] w118))
  ·
   intro hM127
   refine WR.load (dst := some 82) (t := 56) (o := 0) hb124 (by kernel_rfl) (.agg #[.int .u8 x74.1.Kind, .int .u64 x74.1.In.Lo, .int .u64 x74.1.In.Hi]) (by kernel_rfl) ?_
   refine WR.batch 3 [(81, .bool true), (82, .agg #[.int .u8 x74.1.Kind, .int .u64 x74.1.In.Lo, .int .u64 x74.1.In.Hi]), (83, .int .u8 x113.1), (84, .int .u64 x113.2.1), (85, .int .i64 a8)] (by kernel_rfl) ?_
   refine WR.call (dst := some 86) (by kernel_rfl) (kind_Holds_any x74.1 x113.1 x113.2.1 a8 w118  ⟨(by omega), (by omega), (by omega)⟩ (by omega) (by omega) (by omega) ) ?_
   rintro _ w128 hc129 rfl
   have hz131 := hc129.size
   have hC130 := hC120.pure hc129
   have hb132 := hb122.pure hc129
   have hb133 := hb123.pure hc129
   have hb134 := hb124.pure hc129
   refine WR.batch 1 [(87, .bool (kind_Holds x74.1 x113.1 x113.2.1 a8))] (by kernel_rfl) ?_
   exact WR.keep [87] (by kernel_rfl) (hM127 _ ((Chg.refl [] w118).pure hc129))
 intro w135 hc136
 have hz138 := hc136.size
 have hC137 := hC120.pure hc136
 have hb139 := hb122.pure hc136
 have hb140 := hb123.pure hc136
 have hb141 := hb124.pure hc136
 refine WR.batch 1 [(18, .bool (x113.2.2 && (kind_Holds x74.1 x113.1 x113.2.1 a8)))] (by kernel_rfl) ?_
 refine WR.fin (by kernel_rfl) ?_
 refine go hK125 ?_
 refine CW.ret ?_
 exact retV (.bool (x113.2.2 && (kind_Holds x74.1 x113.1 x113.2.1 a8))) (by kernel_rfl) (⟨hC137, (congrArg (fun r : Bool => (.bool r : Value)) hs116).symm⟩)
end Go.V
