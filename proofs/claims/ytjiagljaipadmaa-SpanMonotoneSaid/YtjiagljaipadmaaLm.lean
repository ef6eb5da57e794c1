import Derived.Test.YtjiagljaipadmaaProg
import Derived.Test.YtjiagljaipadmaaLp
namespace Go.V
open Go.RowKit Go.Proofs
def law11_SpanMonotone (a0 : Int) (a1 : Bool) (a2 : Bool) (a3 : TSpan) (a4 : TSpan) (a5 : Int) (a6 : Int) (a7 : Int) (a8 : Int)  : Bool := (letF (law11_awake) fun x24 => (if (!x24) then false else (letF (law11_pick a0) fun x36 => (letF (law11_right a4) fun x86 => (letF (span_Do x36.1 a1 (law11_part (law11_right a3) a5 a6) (law11_part x86 a7 a8)) fun x231 => (letF (span_Do x36.1 a1 (law11_right a3) x86) fun x237 => (letF (span_Within x231 x237) fun x241 => (if (!x241) then false else (letF (span_If x36.2 a1 a2 (law11_part (law11_right a3) a5 a6) (law11_part x86 a7 a8)) fun x255 => (letF (span_If x36.2 a1 a2 (law11_right a3) x86) fun x298 => ((!x255.2.2) || ((x298.2.2 && (span_Within x255.1 x298.1)) && (span_Within x255.2.1 x298.2.1)))))))))))))

set_option maxRecDepth 100000 in
set_option maxHeartbeats 4000000 in
theorem law11_SpanMonotone_any (a0 : Int) (a1 : Bool) (a2 : Bool) (a3 : TSpan) (a4 : TSpan) (a5 : Int) (a6 : Int) (a7 : Int) (a8 : Int)   (w : World)  (_h_a0 : II64 a0) (_h_a3 : IU64 a3.Lo ∧ IU64 a3.Hi) (_h_a4 : IU64 a4.Lo ∧ IU64 a4.Hi) (_h_a5 : IU64 a5) (_h_a6 : IU64 a6) (_h_a7 : IU64 a7) (_h_a8 : IU64 a8)  : Calls Try.prog 4 #[.int .i64 a0, .bool a1, .bool a2, .agg #[.int .u64 a3.Lo, .int .u64 a3.Hi], .agg #[.int .u64 a4.Lo, .int .u64 a4.Hi], .int .u64 a5, .int .u64 a6, .int .u64 a7, .int .u64 a8] w (RetV w (.bool (law11_SpanMonotone a0 a1 a2 a3 a4 a5 a6 a7 a8))) := by
 have hs := law11_SpanMonotone.eq_1 a0 a1 a2 a3 a4 a5 a6 a7 a8
 refine calls_of_CW Try.func4 rfl (n := 95) Try.ntmps4 (by kernel_rfl) [0, 1, 2, 3, 4, 5, 6, 7, 8] (F := [(0, .int .i64 a0), (1, .bool a1), (2, .bool a2), (3, .agg #[.int .u64 a3.Lo, .int .u64 a3.Hi]), (4, .agg #[.int .u64 a4.Lo, .int .u64 a4.Hi]), (5, .int .u64 a5), (6, .int .u64 a6), (7, .int .u64 a7), (8, .int .u64 a8)]) (by kernel_rfl) ?_
 refine CW.seq fun K1 hK1 => ?_
 refine CW.region ?_
 refine WR.box (dst := some 12) (e := 25) (v := .agg #[.int .u64 a3.Lo, .int .u64 a3.Hi]) (by kernel_rfl) #[.int .u64 a3.Lo, .int .u64 a3.Hi] (by kernel_rfl) ?_
 intro g2 w3 hN4
 have hf6 : w.heap.size ≤ g2 := hN4.fresh
 have hfr8 := hN4.fresh
 have hc7 := hN4.chg
 have hz10 := hc7.size
 have hC9 := (Chg.refl [] w).pure hc7
 have hb5 := hN4.blk
 have hg11 := hb5.lt
 refine WR.box (dst := some 13) (e := 25) (v := .agg #[.int .u64 a4.Lo, .int .u64 a4.Hi]) (by kernel_rfl) #[.int .u64 a4.Lo, .int .u64 a4.Hi] (by kernel_rfl) ?_
 intro g12 w13 hN14
 have hf16 : w.heap.size ≤ g12 := Nat.le_trans hC9.size hN14.fresh
 have hfr18 := hN14.fresh
 have hc17 := hN14.chg
 have hz20 := hc17.size
 have hC19 := hC9.pure hc17
 have hb15 := hN14.blk
 have hg21 := hb15.lt
 refine WR.batch 1 [(0, .int .i64 a0), (1, .bool a1), (2, .bool a2), (5, .int .u64 a5), (6, .int .u64 a6), (7, .int .u64 a7), (8, .int .u64 a8), (12, pt g2 0), (13, pt g12 0)] (by kernel_rfl) ?_
 refine WR.fin (by kernel_rfl) ?_
 refine go hK1 ?_
 refine CW.seq fun K22 hK22 => ?_
 refine CW.seq fun K23 hK23 => ?_
 refine CW.region ?_
 obtain ⟨x24, hx25⟩ : ∃ x, law11_awake = x := ⟨_, rfl⟩
 have hs26 := letS hx25 hs
 refine WR.call (dst := some 29) (by kernel_rfl) (retE (g := (fun r : Bool => (.bool r : Value))) hx25 (law11_awake_any  w13  )) ?_
 rintro _ w27 hc28 rfl
 have hz30 := hc28.size
 have hC29 := hC19.pure hc28
 refine WR.batch 1 [(0, .int .i64 a0), (1, .bool a1), (2, .bool a2), (5, .int .u64 a5), (6, .int .u64 a6), (7, .int .u64 a7), (8, .int .u64 a8), (12, pt g2 0), (13, pt g12 0), (30, .bool (!x24))] (by kernel_rfl) ?_
 refine WR.fin (by kernel_rfl) ?_
 refine go hK23 ?_
 refine CW.cond ((!x24)) (by kernel_rfl) (fun ht31 => ?_) (fun ht31 => ?_)
 ·
  have hs32 := ifT ht31 hs26
  replace ht31 : x24 = false := (bNotT ht31)
  refine CW.seq fun K33 hK33 => ?_
  refine CW.region ?_
  refine WR.batch 1 [(18, .bool false)] (by kernel_rfl) ?_
  refine WR.fin (by kernel_rfl) ?_
  refine go hK33 ?_
  refine CW.ret ?_
  exact retV (.bool false) (by kernel_rfl) (⟨hC29, (congrArg (fun r : Bool => (.bool r : Value)) hs32).symm⟩)
 have hs34 := ifF ht31 hs26
 replace ht31 : x24 = true := (bNotF ht31)
 refine CW.skip ?_
 refine go hK22 ?_
 refine CW.seq fun K35 hK35 => ?_
 refine CW.region ?_
 refine WR.batch 1 [(1, .bool a1), (2, .bool a2), (5, .int .u64 a5), (6, .int .u64 a6), (7, .int .u64 a7), (8, .int .u64 a8), (12, pt g2 0), (13, pt g12 0), (32, .int .i64 a0)] (by kernel_rfl) ?_
 obtain ⟨x36, hx37⟩ : ∃ x, law11_pick a0 = x := ⟨_, rfl⟩
 have hs39 := letS hx37 hs34
 have hx38 : IU8 x36.1 ∧ IU8 x36.2 := by rw [← hx37]; exact law11_pick_ok a0 (by omega) 
 refine WR.call (dst := some 33) (by kernel_rfl) (retE (g := (fun r : (Int × Int) => (.tuple #[.int .u8 r.1, .int .u8 r.2] : Value))) hx37 (law11_pick_any a0 w27  (by omega) )) ?_
 rintro _ w40 hc41 rfl
 have hz43 := hc41.size
 have hC42 := hC29.pure hc41
 refine WR.batch 5 [(1, .bool a1), (2, .bool a2), (5, .int .u64 a5), (6, .int .u64 a6), (7, .int .u64 a7), (8, .int .u64 a8), (12, pt g2 0), (13, pt g12 0), (19, .int .u8 x36.1), (20, .int .u8 x36.2)] (by kernel_rfl) ?_
 refine WR.fin (by kernel_rfl) ?_
 refine go hK35 ?_
 refine CW.seq fun K44 hK44 => ?_
 refine CW.keep [1, 2, 5, 6, 7, 8, 12, 13, 19, 20] (F' := [(1, .bool a1), (2, .bool a2), (5, .int .u64 a5), (6, .int .u64 a6), (7, .int .u64 a7), (8, .int .u64 a8), (12, pt g2 0), (13, pt g12 0), (19, .int .u8 x36.1), (20, .int .u8 x36.2)]) (by kernel_rfl) ?_
 refine CW.regionG 3 [some (.agg #[.int .u64 a3.Lo, .int .u64 a3.Hi]), some (.agg #[.int .u64 (law11_right a3).Lo, .int .u64 (law11_right a3).Hi]), some (.agg #[.int .u64 a4.Lo, .int .u64 a4.Hi])] (fun u => [(36, .agg #[.int .u64 a3.Lo, .int .u64 a3.Hi]), (37, .agg #[.int .u64 (law11_right a3).Lo, .int .u64 (law11_right a3).Hi]), (38, .agg #[.int .u64 a4.Lo, .int .u64 a4.Hi]), (1, .bool a1), (2, .bool a2), (5, .int .u64 a5), (6, .int .u64 a6), (7, .int .u64 a7), (8, .int .u64 a8), (12, pt g2 0), (13, pt g12 0), (19, .int .u8 x36.1), (20, .int .u8 x36.2)]) (fun _ => by kernel_rfl) (by kernel_rfl) [] (fun _ _ => True) (fun _ => trivial) (fun _ _ _ _ _ _ _ => trivial) [] [] (by kernel_rfl) (fun w' => Chg [] w40 w') (fun _ _ _ => True) (fun j x w hj h => absurd hj (by simp)) (by kernel_rfl) (by kernel_rfl) (by kernel_rfl) (by kernel_rfl) (Chg.drew w40) (fun _ _ _ h h' => h.step h' (fun t ht => .inl (cL_sub t ht))) (fun _ _ _ _ _ _ _ _ => trivial) ⟨?_, ⟨?_, ⟨?_, trivial⟩⟩⟩ ?_
 ·
  intro u45 w46 hW47 _ hp48 hal49
  have hz52 := hW47.size
  have hC51 := hC42.pure hW47
  have hb53 := (((hb5.pure hc17).pure hc28).pure hc41).pure hW47
  refine WR.load (dst := some 36) (t := 25) (o := 0) hb53 (by kernel_rfl) (.agg #[.int .u64 a3.Lo, .int .u64 a3.Hi]) (by kernel_rfl) ?_
  refine WR.fin (by kernel_rfl) ?_
  exact fun _ ha => ⟨Chg.refl _ _, _, ha, ⟨⟨fun h => absurd h (by decide), alNone (by decide)⟩, rfl⟩⟩
 ·
  intro u54 w55 hW56 _ hp57 hal58
  have hz61 := hW56.size
  have hC60 := hC42.pure hW56
  have hx62 : IU64 (law11_right a3).Lo ∧ IU64 (law11_right a3).Hi := law11_right_ok a3 ⟨(by omega), (by omega)⟩ 
  have hx63 : IU64 (law11_right a3).Lo ∧ IU64 (law11_right a3).Hi := law11_right_ok a3 ⟨(by omega), (by omega)⟩ 
  refine WR.call (dst := some 37) (by kernel_rfl) (law11_right_any a3 w55  ⟨(by omega), (by omega)⟩ ) ?_
  rintro _ w64 hc65 rfl
  have hz67 := hc65.size
  have hC66 := hC60.pure hc65
  refine WR.fin (by kernel_rfl) ?_
  exact fun _ ha => ⟨hc65, _, ha, ⟨⟨fun h => absurd h (by decide), alNone (by decide)⟩, rfl⟩⟩
 ·
  intro u68 w69 hW70 _ hp71 hal72
  have hz75 := hW70.size
  have hC74 := hC42.pure hW70
  have hb76 := ((hb15.pure hc28).pure hc41).pure hW70
  refine WR.load (dst := some 38) (t := 25) (o := 0) hb76 (by kernel_rfl) (.agg #[.int .u64 a4.Lo, .int .u64 a4.Hi]) (by kernel_rfl) ?_
  refine WR.fin (by kernel_rfl) ?_
  exact fun _ ha => ⟨Chg.refl _ _, _, ha, ⟨⟨fun h => absurd h (by decide), alNone (by decide)⟩, rfl⟩⟩
 intro u77 w78 hW79 _ _ _
 have hz84 := hW79.size
 have hC83 := hC42.pure hW79
 have hx85 : IU64 (law11_right a3).Lo ∧ IU64 (law11_right a3).Hi := law11_right_ok a3 ⟨(by omega), (by omega)⟩ 
 refine WR.keep [1, 2, 5, 6, 7, 8, 12, 13, 19, 20, 37, 38] (F' := [(1, .bool a1), (2, .bool a2), (5, .int .u64 a5), (6, .int .u64 a6), (7, .int .u64 a7), (8, .int .u64 a8), (12, pt g2 0), (13, pt g12 0), (19, .int .u8 x36.1), (20, .int .u8 x36.2), (37, .agg #[.int .u64 (law11_right a3).Lo, .int .u64 (law11_right a3).Hi]), (38, .agg #[.int .u64 a4.Lo, .int .u64 a4.Hi])]) (by kernel_rfl) ?_
 obtain ⟨x86, hx87⟩ : ∃ x, law11_right a4 = x := ⟨_, rfl⟩
 have hs89 := letS hx87 hs39
 have hx88 : IU64 x86.Lo ∧ IU64 x86.Hi := by rw [← hx87]; exact law11_right_ok a4 ⟨(by omega), (by omega)⟩ 
 refine WR.call (dst := some 39) (by kernel_rfl) (retE (g := TSpan.v) hx87 (law11_right_any a4 w78  ⟨(by omega), (by omega)⟩ )) ?_
 rintro _ w90 hc91 rfl
 have hz93 := hc91.size
 have hC92 := hC83.pure hc91
 have hb97 := ((((hb5.pure hc17).pure hc28).pure hc41).pure hW79).pure hc91
 refine WR.store (t := 25) (o := 0) (v := .agg #[.int .u64 (law11_right a3).Lo, .int .u64 (law11_right a3).Hi]) hb97 (by kernel_rfl) #[.int .u64 (law11_right a3).Lo, .int .u64 (law11_right a3).Hi] (by kernel_rfl) ?_
 intro w94 hb95 hc96
 have hz99 := hc96.size
 have hC98 := hC92.step1 hc96 (by omega)
 have hb103 := ((((hb15.pure hc28).pure hc41).pure hW79).pure hc91).chg1 hc96 (by omega)
 refine WR.store (t := 25) (o := 0) (v := .agg #[.int .u64 x86.Lo, .int .u64 x86.Hi]) hb103 (by kernel_rfl) #[.int .u64 x86.Lo, .int .u64 x86.Hi] (by kernel_rfl) ?_
 intro w100 hb101 hc102
 have hz105 := hc102.size
 have hC104 := hC98.step1 hc102 (by omega)
 refine WR.fin (by kernel_rfl) ?_
 refine go hK44 ?_
 refine CW.seq fun K106 hK106 => ?_
 refine CW.keep [1, 2, 5, 6, 7, 8, 12, 13, 19, 20] (F' := [(1, .bool a1), (2, .bool a2), (5, .int .u64 a5), (6, .int .u64 a6), (7, .int .u64 a7), (8, .int .u64 a8), (12, pt g2 0), (13, pt g12 0), (19, .int .u8 x36.1), (20, .int .u8 x36.2)]) (by kernel_rfl) ?_
 refine CW.regionG 10 [some (.agg #[.int .u64 (law11_right a3).Lo, .int .u64 (law11_right a3).Hi]), some (.int .u64 a5), some (.int .u64 a6), some (.agg #[.int .u64 (law11_part (law11_right a3) a5 a6).Lo, .int .u64 (law11_part (law11_right a3) a5 a6).Hi]), some (.agg #[.int .u64 x86.Lo, .int .u64 x86.Hi]), some (.int .u64 a7), some (.int .u64 a8), some (.agg #[.int .u64 (law11_part x86 a7 a8).Lo, .int .u64 (law11_part x86 a7 a8).Hi]), none, none] (fun u => [(40, .agg #[.int .u64 (law11_right a3).Lo, .int .u64 (law11_right a3).Hi]), (41, .int .u64 a5), (42, .int .u64 a6), (43, .agg #[.int .u64 (law11_part (law11_right a3) a5 a6).Lo, .int .u64 (law11_part (law11_right a3) a5 a6).Hi]), (44, .agg #[.int .u64 x86.Lo, .int .u64 x86.Hi]), (45, .int .u64 a7), (46, .int .u64 a8), (47, .agg #[.int .u64 (law11_part x86 a7 a8).Lo, .int .u64 (law11_part x86 a7 a8).Hi]), (21, u 8), (22, u 9), (1, .bool a1), (2, .bool a2), (5, .int .u64 a5), (6, .int .u64 a6), (7, .int .u64 a7), (8, .int .u64 a8), (12, pt g2 0), (13, pt g12 0), (19, .int .u8 x36.1), (20, .int .u8 x36.2)]) (fun _ => by kernel_rfl) (by kernel_rfl) [] (fun _ _ => True) (fun _ => trivial) (fun _ _ _ _ _ _ _ => trivial) [8, 9] [] (by kernel_rfl) (fun w' => Chg [] w100 w') (fun i v w' => match i with | 0 => True | 1 => True | 2 => True | 3 => True | 4 => True | 5 => True | 6 => True | 7 => True | 8 => ∃ g, v = .pointer (some ⟨g, 0, none⟩) ∧ Blk w' g #[.int .u64 0, .int .u64 0] 25 ∧ w100.heap.size ≤ g | 9 => ∃ g, v = .pointer (some ⟨g, 0, none⟩) ∧ Blk w' g #[.int .u64 0, .int .u64 0] 25 ∧ w100.heap.size ≤ g | _ => True) (fun j x w hj h => match j, hj, h with | 0, hj, h => absurd hj (by decide) | 1, hj, h => absurd hj (by decide) | 2, hj, h => absurd hj (by decide) | 3, hj, h => absurd hj (by decide) | 4, hj, h => absurd hj (by decide) | 5, hj, h => absurd hj (by decide) | 6, hj, h => absurd hj (by decide) | 7, hj, h => absurd hj (by decide) | 8, hj, h => newLt h | 9, hj, h => newLt h | j + 10, hj, _ => absurd hj (by simp)) (by kernel_rfl) (by kernel_rfl) (by kernel_rfl) (by kernel_rfl) (Chg.drew w100) (fun _ _ _ h h' => h.step h' (fun t ht => .inl (cL_sub t ht))) ?_ ⟨?_, (obsG_batch 2 1 7 (fun _ _ => by kernel_rfl) (by kernel_rfl) ⟨?_, ⟨?_, (obsG_batch 2 5 3 (fun _ _ => by kernel_rfl) (by kernel_rfl) ⟨?_, ⟨?_, ⟨?_, trivial⟩⟩⟩)⟩⟩)⟩ ?_
 ·
  intro i j v w1 w2 hij h hc
  match j, hij, h with
  | 0, _, _ => trivial
  | 1, _, _ => trivial
  | 2, _, _ => trivial
  | 3, _, _ => trivial
  | 4, _, _ => trivial
  | 5, _, _ => trivial
  | 6, _, _ => trivial
  | 7, _, _ => trivial
  | 8, _, h => exact h.elim fun g h => ⟨g, h.1, h.2.1.pure hc, h.2.2⟩
  | 9, _, h => exact h.elim fun g h => ⟨g, h.1, h.2.1.pure hc, h.2.2⟩
  | n + 10, _, _ => trivial
 ·
  intro u107 w108 hW109 _ hp110 hal111
  have hz114 := hW109.size
  have hC113 := hC104.pure hW109
  have hb115 := (hb95.chg1 hc102 (by omega)).pure hW109
  refine WR.load (dst := some 40) (t := 25) (o := 0) hb115 (by kernel_rfl) (.agg #[.int .u64 (law11_right a3).Lo, .int .u64 (law11_right a3).Hi]) (by kernel_rfl) ?_
  refine WR.fin (by kernel_rfl) ?_
  exact fun _ ha => ⟨Chg.refl _ _, _, ha, ⟨⟨fun h => absurd h (by decide), alNone (by decide)⟩, rfl⟩⟩
 ·
  intro u116 w117 hW118 _ hp119 hal120
  have hz123 := hW118.size
  have hC122 := hC104.pure hW118
  have hx124 : IU64 (law11_right a3).Lo ∧ IU64 (law11_right a3).Hi := law11_right_ok a3 ⟨(by omega), (by omega)⟩ 
  have hx125 : IU64 (law11_part (law11_right a3) a5 a6).Lo ∧ IU64 (law11_part (law11_right a3) a5 a6).Hi := law11_part_ok (law11_right a3) a5 a6 ⟨(by omega), (by omega)⟩ (by omega) (by omega) 
  have hx126 : IU64 (law11_part x86 a7 a8).Lo ∧ IU64 (law11_part x86 a7 a8).Hi := law11_part_ok x86 a7 a8 ⟨(by omega), (by omega)⟩ (by omega) (by omega) 
  have hx127 : IU64 (law11_part (law11_right a3) a5 a6).Lo ∧ IU64 (law11_part (law11_right a3) a5 a6).Hi := law11_part_ok (law11_right a3) a5 a6 ⟨(by omega), (by omega)⟩ (by omega) (by omega) 
  refine WR.call (dst := some 43) (by kernel_rfl) (law11_part_any (law11_right a3) a5 a6 w117  ⟨(by omega), (by omega)⟩ (by omega) (by omega) ) ?_
  rintro _ w128 hc129 rfl
  have hz131 := hc129.size
  have hC130 := hC122.pure hc129
  refine WR.fin (by kernel_rfl) ?_
  exact fun _ ha => ⟨hc129, _, ha, ⟨⟨fun h => absurd h (by decide), alNone (by decide)⟩, rfl⟩⟩
 ·
  intro u132 w133 hW134 _ hp135 hal136
  have hz139 := hW134.size
  have hC138 := hC104.pure hW134
  have hb140 := hb101.pure hW134
  refine WR.load (dst := some 44) (t := 25) (o := 0) hb140 (by kernel_rfl) (.agg #[.int .u64 x86.Lo, .int .u64 x86.Hi]) (by kernel_rfl) ?_
  refine WR.fin (by kernel_rfl) ?_
  exact fun _ ha => ⟨Chg.refl _ _, _, ha, ⟨⟨fun h => absurd h (by decide), alNone (by decide)⟩, rfl⟩⟩
 ·
  intro u141 w142 hW143 _ hp144 hal145
  have hz148 := hW143.size
  have hC147 := hC104.pure hW143
  have hx149 : IU64 (law11_right a3).Lo ∧ IU64 (law11_right a3).Hi := law11_right_ok a3 ⟨(by omega), (by omega)⟩ 
  have hx150 : IU64 (law11_part (law11_right a3) a5 a6).Lo ∧ IU64 (law11_part (law11_right a3) a5 a6).Hi := law11_part_ok (law11_right a3) a5 a6 ⟨(by omega), (by omega)⟩ (by omega) (by omega) 
  have hx151 : IU64 (law11_part x86 a7 a8).Lo ∧ IU64 (law11_part x86 a7 a8).Hi := law11_part_ok x86 a7 a8 ⟨(by omega), (by omega)⟩ (by omega) (by omega) 
  have hx152 : IU64 (law11_part x86 a7 a8).Lo ∧ IU64 (law11_part x86 a7 a8).Hi := law11_part_ok x86 a7 a8 ⟨(by omega), (by omega)⟩ (by omega) (by omega) 
  refine WR.call (dst := some 47) (by kernel_rfl) (law11_part_any x86 a7 a8 w142  ⟨(by omega), (by omega)⟩ (by omega) (by omega) ) ?_
  rintro _ w153 hc154 rfl
  have hz156 := hc154.size
  have hC155 := hC147.pure hc154
  refine WR.fin (by kernel_rfl) ?_
  exact fun _ ha => ⟨hc154, _, ha, ⟨⟨fun h => absurd h (by decide), alNone (by decide)⟩, rfl⟩⟩
 ·
  intro u157 w158 hW159 _ hp160 hal161
  have hz164 := hW159.size
  have hC163 := hC104.pure hW159
  refine WR.alloc (dst := some 21) (e := 25) (by kernel_rfl) #[.int .u64 0, .int .u64 0] (by kernel_rfl) ?_
  intro g165 w166 hN167
  have hf169 : w.heap.size ≤ g165 := Nat.le_trans hC163.size hN167.fresh
  have hfr171 := hN167.fresh
  have hc170 := hN167.chg
  have hz173 := hc170.size
  have hC172 := hC163.pure hc170
  have hb168 := hN167.blk
  have hg174 := hb168.lt
  refine WR.fin (by kernel_rfl) ?_
  exact fun _ ha => ⟨hc170, _, ha, ⟨⟨fun _ => .inr (by simp only [adOf, bk]; omega), alNone (by decide)⟩, ⟨g165, rfl, hb168, by omega⟩⟩⟩
 ·
  intro u175 w176 hW177 _ hp178 hal179
  have hz182 := hW177.size
  have hC181 := hC104.pure hW177
  refine WR.alloc (dst := some 22) (e := 25) (by kernel_rfl) #[.int .u64 0, .int .u64 0] (by kernel_rfl) ?_
  intro g183 w184 hN185
  have hf187 : w.heap.size ≤ g183 := Nat.le_trans hC181.size hN185.fresh
  have hfr189 := hN185.fresh
  have hc188 := hN185.chg
  have hz191 := hc188.size
  have hC190 := hC181.pure hc188
  have hb186 := hN185.blk
  have hg192 := hb186.lt
  refine WR.fin (by kernel_rfl) ?_
  exact fun _ ha => ⟨hc188, _, ha, ⟨⟨fun _ => .inr (by simp only [adOf, bk]; omega), alNone (by decide)⟩, ⟨g183, rfl, hb186, by omega⟩⟩⟩
 intro u193 w194 hW195 hr196 hD197 _
 have hz200 := hW195.size
 have hC199 := hC104.pure hW195
 obtain ⟨g202, hp201, hb203, hf204⟩ : ∃ g, u193 8 = .pointer (some ⟨g, 0, none⟩) ∧ Blk w194 g #[.int .u64 0, .int .u64 0] 25 ∧ w100.heap.size ≤ g := hr196 8 (by omega) (by kernel_rfl)
 have hg205 := hb203.lt
 have hf206 : w.heap.size ≤ g202 := Nat.le_trans hC104.size hf204
 obtain ⟨g208, hp207, hb209, hf210⟩ : ∃ g, u193 9 = .pointer (some ⟨g, 0, none⟩) ∧ Blk w194 g #[.int .u64 0, .int .u64 0] 25 ∧ w100.heap.size ≤ g := hr196 9 (by omega) (by kernel_rfl)
 have hg211 := hb209.lt
 have hf212 : w.heap.size ≤ g208 := Nat.le_trans hC104.size hf210
 have hne213 : g208 ≠ g202 := by have h := hD197 9 8 (by omega) (by omega) (by decide) (by decide) (by decide); rw [hp207, hp201] at h; exact ptrApart h
 have hx214 : IU64 (law11_right a3).Lo ∧ IU64 (law11_right a3).Hi := law11_right_ok a3 ⟨(by omega), (by omega)⟩ 
 have hx215 : IU64 (law11_part (law11_right a3) a5 a6).Lo ∧ IU64 (law11_part (law11_right a3) a5 a6).Hi := law11_part_ok (law11_right a3) a5 a6 ⟨(by omega), (by omega)⟩ (by omega) (by omega) 
 have hx216 : IU64 (law11_part x86 a7 a8).Lo ∧ IU64 (law11_part x86 a7 a8).Hi := law11_part_ok x86 a7 a8 ⟨(by omega), (by omega)⟩ (by omega) (by omega) 
 refine WR.keep [1, 2, 12, 13, 19, 20, 21, 22, 43, 47] (F' := [(1, .bool a1), (2, .bool a2), (12, pt g2 0), (13, pt g12 0), (19, .int .u8 x36.1), (20, .int .u8 x36.2), (21, u193 8), (22, u193 9), (43, .agg #[.int .u64 (law11_part (law11_right a3) a5 a6).Lo, .int .u64 (law11_part (law11_right a3) a5 a6).Hi]), (47, .agg #[.int .u64 (law11_part x86 a7 a8).Lo, .int .u64 (law11_part x86 a7 a8).Hi])]) (by kernel_rfl) ?_
 refine WR.eqF (F' := [(1, .bool a1), (2, .bool a2), (12, pt g2 0), (13, pt g12 0), (19, .int .u8 x36.1), (20, .int .u8 x36.2), (21, pt g202 0), (22, pt g208 0), (43, .agg #[.int .u64 (law11_part (law11_right a3) a5 a6).Lo, .int .u64 (law11_part (law11_right a3) a5 a6).Hi]), (47, .agg #[.int .u64 (law11_part x86 a7 a8).Lo, .int .u64 (law11_part x86 a7 a8).Hi])]) (by rw [hp201, hp207]) ?_
 refine WR.store (t := 25) (o := 0) (v := .agg #[.int .u64 (law11_part (law11_right a3) a5 a6).Lo, .int .u64 (law11_part (law11_right a3) a5 a6).Hi]) hb203 (by kernel_rfl) #[.int .u64 (law11_part (law11_right a3) a5 a6).Lo, .int .u64 (law11_part (law11_right a3) a5 a6).Hi] (by kernel_rfl) ?_
 intro w217 hb218 hc219
 have hz221 := hc219.size
 have hC220 := hC199.step1 hc219 (by omega)
 have hb225 := hb209.chg1 hc219 (by omega)
 refine WR.store (t := 25) (o := 0) (v := .agg #[.int .u64 (law11_part x86 a7 a8).Lo, .int .u64 (law11_part x86 a7 a8).Hi]) hb225 (by kernel_rfl) #[.int .u64 (law11_part x86 a7 a8).Lo, .int .u64 (law11_part x86 a7 a8).Hi] (by kernel_rfl) ?_
 intro w222 hb223 hc224
 have hz227 := hc224.size
 have hC226 := hC220.step1 hc224 (by omega)
 refine WR.fin (by kernel_rfl) ?_
 refine go hK106 ?_
 refine CW.seq fun K228 hK228 => ?_
 refine CW.seq fun K229 hK229 => ?_
 refine CW.regionQ (by kernel_rfl) (by kernel_rfl) ?_
 refine WQ.val (dst := some 48) (.int .u8 x36.1) (fun _ => by kernel_rfl) ?_
 refine WQ.val (dst := some 49) (.bool a1) (fun _ => by kernel_rfl) ?_
 have hb230 := hb218.chg1 hc224 (by omega)
 refine WQ.load (dst := some 50) (t := 25) (o := 0) (fun _ hq => hb230.pure hq) (by kernel_rfl) (.agg #[.int .u64 (law11_part (law11_right a3) a5 a6).Lo, .int .u64 (law11_part (law11_right a3) a5 a6).Hi]) (by kernel_rfl) ?_
 refine WQ.load (dst := some 51) (t := 25) (o := 0) (fun _ hq => hb223.pure hq) (by kernel_rfl) (.agg #[.int .u64 (law11_part x86 a7 a8).Lo, .int .u64 (law11_part x86 a7 a8).Hi]) (by kernel_rfl) ?_
 obtain ⟨x231, hx232⟩ : ∃ x, span_Do x36.1 a1 (law11_part (law11_right a3) a5 a6) (law11_part x86 a7 a8) = x := ⟨_, rfl⟩
 have hs234 := letS hx232 hs89
 have hx233 : IU64 x231.Lo ∧ IU64 x231.Hi := by have : IU64 (law11_right a3).Lo ∧ IU64 (law11_right a3).Hi := law11_right_ok a3 ⟨(by omega), (by omega)⟩ ; have : IU64 (law11_part (law11_right a3) a5 a6).Lo ∧ IU64 (law11_part (law11_right a3) a5 a6).Hi := law11_part_ok (law11_right a3) a5 a6 ⟨(by omega), (by omega)⟩ (by omega) (by omega) ; have : IU64 (law11_part x86 a7 a8).Lo ∧ IU64 (law11_part x86 a7 a8).Hi := law11_part_ok x86 a7 a8 ⟨(by omega), (by omega)⟩ (by omega) (by omega) ; rw [← hx232]; exact span_Do_ok x36.1 a1 (law11_part (law11_right a3) a5 a6) (law11_part x86 a7 a8) (by omega) ⟨(by omega), (by omega)⟩ ⟨(by omega), (by omega)⟩ 
 refine WQ.call (dst := some 52) (.agg #[.int .u64 x231.Lo, .int .u64 x231.Hi]) (fun _ => by kernel_rfl) (fun _ _ h h' => h.pure h') (fun wq hq => retE (g := TSpan.v) hx232 (span_Do_any x36.1 a1 (law11_part (law11_right a3) a5 a6) (law11_part x86 a7 a8) wq  (by omega) ⟨(by omega), (by omega)⟩ ⟨(by omega), (by omega)⟩ )) ?_
 refine WQ.val (dst := some 53) (.int .u8 x36.1) (fun _ => by kernel_rfl) ?_
 refine WQ.val (dst := some 54) (.bool a1) (fun _ => by kernel_rfl) ?_
 have hb235 := (((hb95.chg1 hc102 (by omega)).pure hW195).chg1 hc219 (by omega)).chg1 hc224 (by omega)
 refine WQ.load (dst := some 55) (t := 25) (o := 0) (fun _ hq => hb235.pure hq) (by kernel_rfl) (.agg #[.int .u64 (law11_right a3).Lo, .int .u64 (law11_right a3).Hi]) (by kernel_rfl) ?_
 have hb236 := ((hb101.pure hW195).chg1 hc219 (by omega)).chg1 hc224 (by omega)
 refine WQ.load (dst := some 56) (t := 25) (o := 0) (fun _ hq => hb236.pure hq) (by kernel_rfl) (.agg #[.int .u64 x86.Lo, .int .u64 x86.Hi]) (by kernel_rfl) ?_
 obtain ⟨x237, hx238⟩ : ∃ x, span_Do x36.1 a1 (law11_right a3) x86 = x := ⟨_, rfl⟩
 have hs240 := letS hx238 hs234
 have hx239 : IU64 x237.Lo ∧ IU64 x237.Hi := by have : IU64 (law11_right a3).Lo ∧ IU64 (law11_right a3).Hi := law11_right_ok a3 ⟨(by omega), (by omega)⟩ ; rw [← hx238]; exact span_Do_ok x36.1 a1 (law11_right a3) x86 (by omega) ⟨(by omega), (by omega)⟩ ⟨(by omega), (by omega)⟩ 
 refine WQ.call (dst := some 57) (.agg #[.int .u64 x237.Lo, .int .u64 x237.Hi]) (fun _ => by kernel_rfl) (fun _ _ h h' => h.pure h') (fun wq hq => retE (g := TSpan.v) hx238 (span_Do_any x36.1 a1 (law11_right a3) x86 wq  (by omega) ⟨(by omega), (by omega)⟩ ⟨(by omega), (by omega)⟩ )) ?_
 obtain ⟨x241, hx242⟩ : ∃ x, span_Within x231 x237 = x := ⟨_, rfl⟩
 have hs243 := letS hx242 hs240
 refine WQ.call (dst := some 58) (.bool x241) (fun _ => by kernel_rfl) (fun _ _ h h' => h.pure h') (fun wq hq => retE (g := (fun r : Bool => (.bool r : Value))) hx242 (span_Within_any x231 x237 wq  ⟨(by omega), (by omega)⟩ ⟨(by omega), (by omega)⟩ )) ?_
 refine WQ.val (dst := some 59) (.bool (!x241)) (fun _ => by kernel_rfl) ?_
 refine WQ.fin (by kernel_rfl) ?_
 intro w244 hc245
 have hz247 := hc245.size
 have hC246 := hC226.pure hc245
 refine go hK229 ?_
 refine CW.cond ((!x241)) (by kernel_rfl) (fun ht248 => ?_) (fun ht248 => ?_)
 ·
  have hs249 := ifT ht248 hs243
  replace ht248 : x241 = false := (bNotT ht248)
  refine CW.seq fun K250 hK250 => ?_
  refine CW.region ?_
  refine WR.batch 1 [(18, .bool false)] (by kernel_rfl) ?_
  refine WR.fin (by kernel_rfl) ?_
  refine go hK250 ?_
  refine CW.ret ?_
  exact retV (.bool false) (by kernel_rfl) (⟨hC246, (congrArg (fun r : Bool => (.bool r : Value)) hs249).symm⟩)
 have hs251 := ifF ht248 hs243
 replace ht248 : x241 = true := (bNotF ht248)
 refine CW.skip ?_
 refine go hK228 ?_
 refine CW.seq fun K252 hK252 => ?_
 refine CW.region ?_
 refine WR.batch 3 [(1, .bool a1), (2, .bool a2), (12, pt g2 0), (13, pt g12 0), (20, .int .u8 x36.2), (21, pt g202 0), (22, pt g208 0), (61, .int .u8 x36.2), (62, .bool a1), (63, .bool a2)] (by kernel_rfl) ?_
 have hb253 := hb230.pure hc245
 refine WR.load (dst := some 64) (t := 25) (o := 0) hb253 (by kernel_rfl) (.agg #[.int .u64 (law11_part (law11_right a3) a5 a6).Lo, .int .u64 (law11_part (law11_right a3) a5 a6).Hi]) (by kernel_rfl) ?_
 have hb254 := hb223.pure hc245
 refine WR.load (dst := some 65) (t := 25) (o := 0) hb254 (by kernel_rfl) (.agg #[.int .u64 (law11_part x86 a7 a8).Lo, .int .u64 (law11_part x86 a7 a8).Hi]) (by kernel_rfl) ?_
 obtain ⟨x255, hx256⟩ : ∃ x, span_If x36.2 a1 a2 (law11_part (law11_right a3) a5 a6) (law11_part x86 a7 a8) = x := ⟨_, rfl⟩
 have hs258 := letS hx256 hs251
 have hx257 : IU64 x255.1.Lo ∧ IU64 x255.1.Hi ∧ IU64 x255.2.1.Lo ∧ IU64 x255.2.1.Hi := by have : IU64 (law11_right a3).Lo ∧ IU64 (law11_right a3).Hi := law11_right_ok a3 ⟨(by omega), (by omega)⟩ ; have : IU64 (law11_part (law11_right a3) a5 a6).Lo ∧ IU64 (law11_part (law11_right a3) a5 a6).Hi := law11_part_ok (law11_right a3) a5 a6 ⟨(by omega), (by omega)⟩ (by omega) (by omega) ; have : IU64 (law11_part x86 a7 a8).Lo ∧ IU64 (law11_part x86 a7 a8).Hi := law11_part_ok x86 a7 a8 ⟨(by omega), (by omega)⟩ (by omega) (by omega) ; rw [← hx256]; exact span_If_ok x36.2 a1 a2 (law11_part (law11_right a3) a5 a6) (law11_part x86 a7 a8) (by omega) ⟨(by omega), (by omega)⟩ ⟨(by omega), (by omega)⟩ 
 refine WR.call (dst := some 66) (by kernel_rfl) (retE (g := (fun r : (TSpan × TSpan × Bool) => (.tuple #[TSpan.v r.1, TSpan.v r.2.1, .bool r.2.2] : Value))) hx256 (span_If_any x36.2 a1 a2 (law11_part (law11_right a3) a5 a6) (law11_part x86 a7 a8) w244  (by omega) ⟨(by omega), (by omega)⟩ ⟨(by omega), (by omega)⟩ )) ?_
 rintro _ w259 hc260 rfl
 have hz262 := hc260.size
 have hC261 := hC246.pure hc260
 refine WR.batch 4 [(1, .bool a1), (2, .bool a2), (12, pt g2 0), (13, pt g12 0), (20, .int .u8 x36.2), (67, .agg #[.int .u64 x255.1.Lo, .int .u64 x255.1.Hi]), (68, .agg #[.int .u64 x255.2.1.Lo, .int .u64 x255.2.1.Hi]), (69, .bool x255.2.2)] (by kernel_rfl) ?_
 refine WR.alloc (dst := some 23) (e := 25) (by kernel_rfl) #[.int .u64 0, .int .u64 0] (by kernel_rfl) ?_
 intro g263 w264 hN265
 have hf267 : w.heap.size ≤ g263 := Nat.le_trans hC261.size hN265.fresh
 have hfr269 := hN265.fresh
 have hc268 := hN265.chg
 have hz271 := hc268.size
 have hC270 := hC261.pure hc268
 have hb266 := hN265.blk
 have hg272 := hb266.lt
 refine WR.alloc (dst := some 24) (e := 25) (by kernel_rfl) #[.int .u64 0, .int .u64 0] (by kernel_rfl) ?_
 intro g273 w274 hN275
 have hf277 : w.heap.size ≤ g273 := Nat.le_trans hC270.size hN275.fresh
 have hfr279 := hN275.fresh
 have hc278 := hN275.chg
 have hz281 := hc278.size
 have hC280 := hC270.pure hc278
 have hb276 := hN275.blk
 have hg282 := hb276.lt
 have hb286 := hb266.pure hc278
 refine WR.store (t := 25) (o := 0) (v := .agg #[.int .u64 x255.1.Lo, .int .u64 x255.1.Hi]) hb286 (by kernel_rfl) #[.int .u64 x255.1.Lo, .int .u64 x255.1.Hi] (by kernel_rfl) ?_
 intro w283 hb284 hc285
 have hz288 := hc285.size
 have hC287 := hC280.step1 hc285 (by omega)
 have hb292 := hb276.chg1 hc285 (by omega)
 refine WR.store (t := 25) (o := 0) (v := .agg #[.int .u64 x255.2.1.Lo, .int .u64 x255.2.1.Hi]) hb292 (by kernel_rfl) #[.int .u64 x255.2.1.Lo, .int .u64 x255.2.1.Hi] (by kernel_rfl) ?_
 intro w289 hb290 hc291
 have hz294 := hc291.size
 have hC293 := hC287.step1 hc291 (by omega)
 refine WR.batch 1 [(1, .bool a1), (2, .bool a2), (12, pt g2 0), (13, pt g12 0), (20, .int .u8 x36.2), (23, pt g263 0), (24, pt g273 0), (25, .bool x255.2.2)] (by kernel_rfl) ?_
 refine WR.fin (by kernel_rfl) ?_
 refine go hK252 ?_
 refine CW.seq fun K295 hK295 => ?_
 refine CW.region ?_
 refine WR.batch 3 [(12, pt g2 0), (13, pt g12 0), (23, pt g263 0), (24, pt g273 0), (25, .bool x255.2.2), (71, .int .u8 x36.2), (72, .bool a1), (73, .bool a2)] (by kernel_rfl) ?_
 have hb296 := (((((hb235.pure hc245).pure hc260).pure hc268).pure hc278).chg1 hc285 (by omega)).chg1 hc291 (by omega)
 refine WR.load (dst := some 74) (t := 25) (o := 0) hb296 (by kernel_rfl) (.agg #[.int .u64 (law11_right a3).Lo, .int .u64 (law11_right a3).Hi]) (by kernel_rfl) ?_
 have hb297 := (((((hb236.pure hc245).pure hc260).pure hc268).pure hc278).chg1 hc285 (by omega)).chg1 hc291 (by omega)
 refine WR.load (dst := some 75) (t := 25) (o := 0) hb297 (by kernel_rfl) (.agg #[.int .u64 x86.Lo, .int .u64 x86.Hi]) (by kernel_rfl) ?_
 obtain ⟨x298, hx299⟩ : ∃ x, span_If x36.2 a1 a2 (law11_right a3) x86 = x := ⟨_, rfl⟩
 have hs301 := letS hx299 hs258
 have hx300 : IU64 x298.1.Lo ∧ IU64 x298.1.Hi ∧ IU64 x298.2.1.Lo ∧ IU64 x298.2.1.Hi := by have : IU64 (law11_right a3).Lo ∧ IU64 (law11_right a3).Hi := law11_right_ok a3 ⟨(by omega), (by omega)⟩ ; rw [← hx299]; exact span_If_ok x36.2 a1 a2 (law11_right a3) x86 (by omega) ⟨(by omega), (by omega)⟩ ⟨(by omega), (by omega)⟩ 
 refine WR.call (dst := some 76) (by kernel_rfl) (retE (g := (fun r : (TSpan × TSpan × Bool) => (.tuple #[TSpan.v r.1, TSpan.v r.2.1, .bool r.2.2] : Value))) hx299 (span_If_any x36.2 a1 a2 (law11_right a3) x86 w289  (by omega) ⟨(by omega), (by omega)⟩ ⟨(by omega), (by omega)⟩ )) ?_
 rintro _ w302 hc303 rfl
 have hz305 := hc303.size
 have hC304 := hC293.pure hc303
 refine WR.batch 4 [(23, pt g263 0), (24, pt g273 0), (25, .bool x255.2.2), (77, .agg #[.int .u64 x298.1.Lo, .int .u64 x298.1.Hi]), (78, .agg #[.int .u64 x298.2.1.Lo, .int .u64 x298.2.1.Hi]), (79, .bool x298.2.2)] (by kernel_rfl) ?_
 refine WR.alloc (dst := some 26) (e := 25) (by kernel_rfl) #[.int .u64 0, .int .u64 0] (by kernel_rfl) ?_
 intro g306 w307 hN308
 have hf310 : w.heap.size ≤ g306 := Nat.le_trans hC304.size hN308.fresh
 have hfr312 := hN308.fresh
 have hc311 := hN308.chg
 have hz314 := hc311.size
 have hC313 := hC304.pure hc311
 have hb309 := hN308.blk
 have hg315 := hb309.lt
 refine WR.alloc (dst := some 27) (e := 25) (by kernel_rfl) #[.int .u64 0, .int .u64 0] (by kernel_rfl) ?_
 intro g316 w317 hN318
 have hf320 : w.heap.size ≤ g316 := Nat.le_trans hC313.size hN318.fresh
 have hfr322 := hN318.fresh
 have hc321 := hN318.chg
 have hz324 := hc321.size
 have hC323 := hC313.pure hc321
 have hb319 := hN318.blk
 have hg325 := hb319.lt
 have hb329 := hb309.pure hc321
 refine WR.store (t := 25) (o := 0) (v := .agg #[.int .u64 x298.1.Lo, .int .u64 x298.1.Hi]) hb329 (by kernel_rfl) #[.int .u64 x298.1.Lo, .int .u64 x298.1.Hi] (by kernel_rfl) ?_
 intro w326 hb327 hc328
 have hz331 := hc328.size
 have hC330 := hC323.step1 hc328 (by omega)
 have hb335 := hb319.chg1 hc328 (by omega)
 refine WR.store (t := 25) (o := 0) (v := .agg #[.int .u64 x298.2.1.Lo, .int .u64 x298.2.1.Hi]) hb335 (by kernel_rfl) #[.int .u64 x298.2.1.Lo, .int .u64 x298.2.1.Hi] (by kernel_rfl) ?_
 intro w332 hb333 hc334
 have hz337 := hc334.size
 have hC336 := hC330.step1 hc334 (by omega)
 refine WR.batch 1 [(23, pt g263 0), (24, pt g273 0), (25, .bool x255.2.2), (26, pt g306 0), (27, pt g316 0), (28, .bool x298.2.2)] (by kernel_rfl) ?_
 refine WR.fin (by kernel_rfl) ?_
 refine go hK295 ?_
 refine CW.seq fun K338 hK338 => ?_
 refine CW.region ?_
 refine WR.batch 3 [(23, pt g263 0), (24, pt g273 0), (26, pt g306 0), (27, pt g316 0), (28, .bool x298.2.2), (82, .bool (!x255.2.2))] (by kernel_rfl) ?_
 refine WR.mergeW 15 [(94, .bool ((!x255.2.2) || ((x298.2.2 && (span_Within x255.1 x298.1)) && (span_Within x255.2.1 x298.2.1))))] (fun w' => Chg [] w332 w') (fun Q' => ?_) ?_
 ·
  cases hg339 : (!x255.2.2)
  ·
   have hk341 := hg339
   replace hg339 : x255.2.2 = true := (bNotF hg339)
   intro hM340
   refine WR.batch 2 [(23, pt g263 0), (24, pt g273 0), (26, pt g306 0), (27, pt g316 0), (82, .bool false), (84, .bool x298.2.2)] (by kernel_rfl) ?_
   refine WR.mergeW 9 [(24, pt g273 0), (27, pt g316 0), (82, .bool false), (88, .bool (x298.2.2 && (span_Within x255.1 x298.1)))] (fun w' => Chg [] w332 w') (fun Q' => ?_) ?_
   ·
    cases hg342 : x298.2.2
    ·
     have hk344 := hg342
     intro hM343
     refine WR.batch 4 [(24, pt g273 0), (27, pt g316 0), (82, .bool false), (88, .bool false)] (by kernel_rfl) ?_
     exact WR.keep [24, 27, 82, 88] (by kernel_rfl) (hM343 _ (Chg.refl [] w332))
    ·
     have hk345 := hg342
     intro hM343
     have hb346 := (((((hb284.chg1 hc291 (by omega)).pure hc303).pure hc311).pure hc321).chg1 hc328 (by omega)).chg1 hc334 (by omega)
     refine WR.load (dst := some 85) (t := 25) (o := 0) hb346 (by kernel_rfl) (.agg #[.int .u64 x255.1.Lo, .int .u64 x255.1.Hi]) (by kernel_rfl) ?_
     have hb347 := hb327.chg1 hc334 (by omega)
     refine WR.load (dst := some 86) (t := 25) (o := 0) hb347 (by kernel_rfl) (.agg #[.int .u64 x298.1.Lo, .int .u64 x298.1.Hi]) (by kernel_rfl) ?_
     refine WR.call (dst := some 87) (by kernel_rfl) (span_Within_any x255.1 x298.1 w332  ⟨(by omega), (by omega)⟩ ⟨(by omega), (by omega)⟩ ) ?_
     rintro _ w348 hc349 rfl
     have hz351 := hc349.size
     have hC350 := hC336.pure hc349
     refine WR.batch 1 [(24, pt g273 0), (27, pt g316 0), (82, .bool false), (88, .bool (span_Within x255.1 x298.1))] (by kernel_rfl) ?_
     exact WR.keep [24, 27, 82, 88] (by kernel_rfl) (hM343 _ ((Chg.refl [] w332).pure hc349))
   intro w352 hc353
   have hz355 := hc353.size
   have hC354 := hC336.pure hc353
   have hx356 : IU64 (law11_right a3).Lo ∧ IU64 (law11_right a3).Hi := law11_right_ok a3 ⟨(by omega), (by omega)⟩ 
   have hx357 : IU64 (law11_part (law11_right a3) a5 a6).Lo ∧ IU64 (law11_part (law11_right a3) a5 a6).Hi := law11_part_ok (law11_right a3) a5 a6 ⟨(by omega), (by omega)⟩ (by omega) (by omega) 
   have hx358 : IU64 (law11_part x86 a7 a8).Lo ∧ IU64 (law11_part x86 a7 a8).Hi := law11_part_ok x86 a7 a8 ⟨(by omega), (by omega)⟩ (by omega) (by omega) 
   refine WR.batch 1 [(24, pt g273 0), (27, pt g316 0), (82, .bool false), (89, .bool (x298.2.2 && (span_Within x255.1 x298.1)))] (by kernel_rfl) ?_
   refine WR.mergeW 14 [(82, .bool false), (93, .bool ((x298.2.2 && (span_Within x255.1 x298.1)) && (span_Within x255.2.1 x298.2.1)))] (fun w' => Chg [] w352 w') (fun Q' => ?_) ?_
   ·
    cases hg359 : (x298.2.2 && (span_Within x255.1 x298.1))
    ·
     have hk361 := hg359
     replace hg359 : (x298.2.2 = false) ∨ ((span_Within x255.1 x298.1) = false) := (orMap (bAndF hg359) (fun h => h) (fun h => h))
     intro hM360
     refine WR.batch 4 [(82, .bool false), (93, .bool false)] (by kernel_rfl) ?_
     exact WR.keep [82, 93] (by kernel_rfl) (hM360 _ (Chg.refl [] w352))
    ·
     have hk362 := hg359
     replace hg359 : (x298.2.2 = true) ∧ ((span_Within x255.1 x298.1) = true) := ⟨(bAndT hg359).1, (bAndT hg359).2⟩
     intro hM360
     have hb363 := (((((hb290.pure hc303).pure hc311).pure hc321).chg1 hc328 (by omega)).chg1 hc334 (by omega)).pure hc353
     refine WR.load (dst := some 90) (t := 25) (o := 0) hb363 (by kernel_rfl) (.agg #[.int .u64 x255.2.1.Lo, .int .u64 x255.2.1.Hi]) (by kernel_rfl) ?_
     have hb364 := hb333.pure hc353
     refine WR.load (dst := some 91) (t := 25) (o := 0) hb364 (by kernel_rfl) (.agg #[.int .u64 x298.2.1.Lo, .int .u64 x298.2.1.Hi]) (by kernel_rfl) ?_
     refine WR.call (dst := some 92) (by kernel_rfl) (span_Within_any x255.2.1 x298.2.1 w352  ⟨(by omega), (by omega)⟩ ⟨(by omega), (by omega)⟩ ) ?_
     rintro _ w365 hc366 rfl
     have hz368 := hc366.size
     have hC367 := hC354.pure hc366
     refine WR.batch 1 [(82, .bool false), (93, .bool (span_Within x255.2.1 x298.2.1))] (by kernel_rfl) ?_
     exact WR.keep [82, 93] (by kernel_rfl) (hM360 _ ((Chg.refl [] w352).pure hc366))
   intro w369 hc370
   have hz372 := hc370.size
   have hC371 := hC354.pure hc370
   have hx373 : IU64 (law11_right a3).Lo ∧ IU64 (law11_right a3).Hi := law11_right_ok a3 ⟨(by omega), (by omega)⟩ 
   have hx374 : IU64 (law11_part (law11_right a3) a5 a6).Lo ∧ IU64 (law11_part (law11_right a3) a5 a6).Hi := law11_part_ok (law11_right a3) a5 a6 ⟨(by omega), (by omega)⟩ (by omega) (by omega) 
   have hx375 : IU64 (law11_part x86 a7 a8).Lo ∧ IU64 (law11_part x86 a7 a8).Hi := law11_part_ok x86 a7 a8 ⟨(by omega), (by omega)⟩ (by omega) (by omega) 
   refine WR.batch 1 [(94, .bool ((x298.2.2 && (span_Within x255.1 x298.1)) && (span_Within x255.2.1 x298.2.1)))] (by kernel_rfl) ?_
   exact WR.keep [94] (by kernel_rfl) (hM340 _ (((Chg.refl [] w332).pure hc353).pure hc370))
  ·
   have hk376 := hg339
   replace hg339 : x255.2.2 = false := (bNotT hg339)
   intro hM340
   refine WR.batch 12 [(94, .bool true)] (by kernel_rfl) ?_
   exact WR.keep [94] (by kernel_rfl) (hM340 _ (Chg.refl [] w332))
 intro w377 hc378
 have hz380 := hc378.size
 have hC379 := hC336.pure hc378
 have hx381 : IU64 (law11_right a3).Lo ∧ IU64 (law11_right a3).Hi := law11_right_ok a3 ⟨(by omega), (by omega)⟩ 
 have hx382 : IU64 (law11_part (law11_right a3) a5 a6).Lo ∧ IU64 (law11_part (law11_right a3) a5 a6).Hi := law11_part_ok (law11_right a3) a5 a6 ⟨(by omega), (by omega)⟩ (by omega) (by omega) 
 have hx383 : IU64 (law11_part x86 a7 a8).Lo ∧ IU64 (law11_part x86 a7 a8).Hi := law11_part_ok x86 a7 a8 ⟨(by omega), (by omega)⟩ (by omega) (by omega) 
 refine WR.batch 1 [(18, .bool ((!x255.2.2) || ((x298.2.2 && (span_Within x255.1 x298.1)) && (span_Within x255.2.1 x298.2.1))))] (by kernel_rfl) ?_
 refine WR.fin (by kernel_rfl) ?_
 refine go hK338 ?_
 refine CW.ret ?_
 exact retV (.bool ((!x255.2.2) || ((x298.2.2 && (span_Within x255.1 x298.1)) && (span_Within x255.2.1 x298.2.1)))) (by kernel_rfl) (⟨hC379, (congrArg (fun r : Bool => (.bool r : Value)) hs301).symm⟩)
end Go.V
