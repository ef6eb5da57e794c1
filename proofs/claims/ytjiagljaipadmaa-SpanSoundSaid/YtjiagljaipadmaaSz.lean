import Derived.Test.YtjiagljaipadmaaProg
import Derived.Test.YtjiagljaipadmaaSx
namespace Go.V
open Go.RowKit Go.Proofs
theorem span_Do_1_ret (g0_ g1_ : Nat) (w : World) : CallsD Try.prog 54 #[pt g0_ 0, pt g1_ 0] .returning w (fun e u' w' => (∃ v0, e = .returned v0) ∧ u' = .returning ∧ Chg [] w w') := by
 refine callsD_rec (u' := .returning) (v := .nilIface) Try.func54 rfl (n := 18) Try.ntmps54 (by kernel_rfl) [0, 1] (F := [(0, pt g0_ 0), (1, pt g1_ 0)]) (by kernel_rfl) 5 (by kernel_rfl) (by kernel_rfl) rfl ?_
 intro K1 hK1
 refine WR.batch 1 [(0, pt g0_ 0), (1, pt g1_ 0), (2, .nilIface)] (by kernel_rfl) ?_
 refine WR.fin (by kernel_rfl) ?_
 refine go hK1 ?_
 refine CW.seq fun K2 hK2 => ?_
 refine CW.region ?_
 refine WR.batch 2 [(0, pt g0_ 0), (1, pt g1_ 0), (2, .nilIface), (7, .bool false)] (by kernel_rfl) ?_
 refine WR.fin (by kernel_rfl) ?_
 refine go hK2 ?_
 refine CW.no (by kernel_rfl) ?_
 refine CW.skip ?_
 exact endV (P := Try.prog) (fn := Try.f54) (.tuple #[]) (by kernel_rfl) ⟨⟨_, rfl⟩, rfl, Chg.refl _ _⟩

theorem span_Do_1_pan (c0 : Bool) (c1 : TSpan) (g0_ g1_ : Nat) (w : World) (hb0_ : Blk w g0_ #[.bool c0] 4) (hb1_ : Blk w g1_ #[.int .u64 c1.Lo, .int .u64 c1.Hi] 25) (_hd10 : g1_ ≠ g0_) : CallsD Try.prog 54 #[pt g0_ 0, pt g1_ 0] (.panicking [{ v := .iface 76 (.agg #[]), recovered := false }]) w (fun e u' w' => (∃ v0, e = .returned v0) ∧ u' = .panicking [{ v := .iface 76 (.agg #[]), recovered := true }] ∧ Chg [g1_] w w' ∧ Blk w' g0_ #[.bool c0] 4 ∧ Blk w' g1_ #[.int .u64 (span_All c0).Lo, .int .u64 (span_All c0).Hi] 25) := by
 have hg1 := hb0_.lt
 have hg2 := hb1_.lt
 refine callsD_rec (u' := (.panicking [{ v := .iface 76 (.agg #[]), recovered := true }])) (v := .iface 76 (.agg #[])) Try.func54 rfl (n := 18) Try.ntmps54 (by kernel_rfl) [0, 1] (F := [(0, pt g0_ 0), (1, pt g1_ 0)]) (by kernel_rfl) 5 (by kernel_rfl) (by kernel_rfl) rfl ?_
 intro K3 hK3
 refine WR.batch 1 [(0, pt g0_ 0), (1, pt g1_ 0), (2, .iface 76 (.agg #[]))] (by kernel_rfl) ?_
 refine WR.fin (by kernel_rfl) ?_
 refine go hK3 ?_
 refine CW.seq fun K4 hK4 => ?_
 refine CW.region ?_
 refine WR.batch 2 [(0, pt g0_ 0), (1, pt g1_ 0), (2, .iface 76 (.agg #[])), (7, .bool true)] (by kernel_rfl) ?_
 refine WR.fin (by kernel_rfl) ?_
 refine go hK4 ?_
 refine CW.yes (by kernel_rfl) ?_
 refine CW.seq fun K5 hK5 => ?_
 refine CW.seq fun K6 hK6 => ?_
 refine CW.region ?_
 refine WR.batch 5 [(0, pt g0_ 0), (1, pt g1_ 0), (2, .iface 76 (.agg #[])), (11, .agg #[]), (12, .bool true)] (by kernel_rfl) ?_
 refine WR.alloc (dst := some 3) (e := 76) (by kernel_rfl) #[] (by kernel_rfl) ?_
 intro g7 w8 hN9
 have hf11 : w.heap.size ≤ g7 := hN9.fresh
 have hfr13 := hN9.fresh
 have hc12 := hN9.chg
 have hz15 := hc12.size
 have hC14 := (Chg.refl [g1_] w).pure hc12
 have hb10 := hN9.blk
 have hg16 := hb10.lt
 refine WR.store (t := 76) (o := 0) (v := .agg #[]) hb10 (by kernel_rfl) #[] (by kernel_rfl) ?_
 intro w17 hb18 hc19
 have hz21 := hc19.size
 have hC20 := hC14.step1 hc19 (by omega)
 refine WR.batch 1 [(0, pt g0_ 0), (1, pt g1_ 0), (2, .iface 76 (.agg #[])), (4, .bool true)] (by kernel_rfl) ?_
 refine WR.fin (by kernel_rfl) ?_
 refine go hK6 ?_
 refine CW.seq fun K22 hK22 => ?_
 refine CW.region ?_
 refine WR.batch 2 [(0, pt g0_ 0), (1, pt g1_ 0), (2, .iface 76 (.agg #[])), (14, .bool false)] (by kernel_rfl) ?_
 refine WR.fin (by kernel_rfl) ?_
 refine go hK22 ?_
 refine CW.no (by kernel_rfl) ?_
 refine CW.skip ?_
 refine go hK5 ?_
 refine CW.region ?_
 have hb23 := (hb0_.pure hc12).chg1 hc19 (by omega)
 refine WR.load (dst := some 16) (t := 4) (o := 0) hb23 (by kernel_rfl) (.bool c0) (by kernel_rfl) ?_
 have hx24 : IU64 (span_All c0).Lo ∧ IU64 (span_All c0).Hi := span_All_ok c0 
 refine WR.call (dst := some 17) (by kernel_rfl) (span_All_any c0 w17  ) ?_
 rintro _ w25 hc26 rfl
 have hz28 := hc26.size
 have hC27 := hC20.pure hc26
 have hb32 := ((hb1_.pure hc12).chg1 hc19 (by omega)).pure hc26
 refine WR.store (t := 25) (o := 0) (v := .agg #[.int .u64 (span_All c0).Lo, .int .u64 (span_All c0).Hi]) hb32 (by kernel_rfl) #[.int .u64 (span_All c0).Lo, .int .u64 (span_All c0).Hi] (by kernel_rfl) ?_
 intro w29 hb30 hc31
 have hz34 := hc31.size
 have hC33 := hC27.step hc31 (by intro t ht; simp only [List.mem_cons, List.not_mem_nil, or_false] at ht; subst ht; first | exact .inr (by omega) | exact .inl (by simp))
 refine WR.fin (by kernel_rfl) ?_
 have hb35 := (hb23.pure hc26).chg1 hc31 (by omega)
 exact endV (P := Try.prog) (fn := Try.f54) (.tuple #[]) (by kernel_rfl) ⟨⟨_, rfl⟩, rfl, hC33, hb35, hb30⟩

theorem span_If_1_ret (g0_ g1_ g2_ : Nat) (w : World) : CallsD Try.prog 56 #[pt g0_ 0, pt g1_ 0, pt g2_ 0] .returning w (fun e u' w' => (∃ v0, e = .returned v0) ∧ u' = .returning ∧ Chg [] w w') := by
 refine callsD_rec (u' := .returning) (v := .nilIface) Try.func56 rfl (n := 19) Try.ntmps56 (by kernel_rfl) [0, 1, 2] (F := [(0, pt g0_ 0), (1, pt g1_ 0), (2, pt g2_ 0)]) (by kernel_rfl) 6 (by kernel_rfl) (by kernel_rfl) rfl ?_
 intro K1 hK1
 refine WR.batch 1 [(0, pt g0_ 0), (1, pt g1_ 0), (2, pt g2_ 0), (3, .nilIface)] (by kernel_rfl) ?_
 refine WR.fin (by kernel_rfl) ?_
 refine go hK1 ?_
 refine CW.seq fun K2 hK2 => ?_
 refine CW.region ?_
 refine WR.batch 2 [(0, pt g0_ 0), (1, pt g1_ 0), (2, pt g2_ 0), (3, .nilIface), (8, .bool false)] (by kernel_rfl) ?_
 refine WR.fin (by kernel_rfl) ?_
 refine go hK2 ?_
 refine CW.no (by kernel_rfl) ?_
 refine CW.skip ?_
 exact endV (P := Try.prog) (fn := Try.f56) (.tuple #[]) (by kernel_rfl) ⟨⟨_, rfl⟩, rfl, Chg.refl _ _⟩

theorem span_If_1_pan (c0 : TSpan) (c1 : TSpan) (c2 : Bool) (g0_ g1_ g2_ : Nat) (w : World) (hb0_ : Blk w g0_ #[.int .u64 c0.Lo, .int .u64 c0.Hi] 25) (hb1_ : Blk w g1_ #[.int .u64 c1.Lo, .int .u64 c1.Hi] 25) (hb2_ : Blk w g2_ #[.bool c2] 4) (_hd10 : g1_ ≠ g0_) (_hd20 : g2_ ≠ g0_) (_hd21 : g2_ ≠ g1_) : CallsD Try.prog 56 #[pt g0_ 0, pt g1_ 0, pt g2_ 0] (.panicking [{ v := .iface 76 (.agg #[]), recovered := false }]) w (fun e u' w' => (∃ v0, e = .returned v0) ∧ u' = .panicking [{ v := .iface 76 (.agg #[]), recovered := true }] ∧ Chg [g0_, g1_, g2_] w w' ∧ Blk w' g0_ #[.int .u64 (0 : Int), .int .u64 (0 : Int)] 25 ∧ Blk w' g1_ #[.int .u64 (0 : Int), .int .u64 (0 : Int)] 25 ∧ Blk w' g2_ #[.bool false] 4) := by
 have hg1 := hb0_.lt
 have hg2 := hb1_.lt
 have hg3 := hb2_.lt
 refine callsD_rec (u' := (.panicking [{ v := .iface 76 (.agg #[]), recovered := true }])) (v := .iface 76 (.agg #[])) Try.func56 rfl (n := 19) Try.ntmps56 (by kernel_rfl) [0, 1, 2] (F := [(0, pt g0_ 0), (1, pt g1_ 0), (2, pt g2_ 0)]) (by kernel_rfl) 6 (by kernel_rfl) (by kernel_rfl) rfl ?_
 intro K4 hK4
 refine WR.batch 1 [(0, pt g0_ 0), (1, pt g1_ 0), (2, pt g2_ 0), (3, .iface 76 (.agg #[]))] (by kernel_rfl) ?_
 refine WR.fin (by kernel_rfl) ?_
 refine go hK4 ?_
 refine CW.seq fun K5 hK5 => ?_
 refine CW.region ?_
 refine WR.batch 2 [(0, pt g0_ 0), (1, pt g1_ 0), (2, pt g2_ 0), (3, .iface 76 (.agg #[])), (8, .bool true)] (by kernel_rfl) ?_
 refine WR.fin (by kernel_rfl) ?_
 refine go hK5 ?_
 refine CW.yes (by kernel_rfl) ?_
 refine CW.seq fun K6 hK6 => ?_
 refine CW.seq fun K7 hK7 => ?_
 refine CW.region ?_
 refine WR.batch 5 [(0, pt g0_ 0), (1, pt g1_ 0), (2, pt g2_ 0), (3, .iface 76 (.agg #[])), (12, .agg #[]), (13, .bool true)] (by kernel_rfl) ?_
 refine WR.alloc (dst := some 4) (e := 76) (by kernel_rfl) #[] (by kernel_rfl) ?_
 intro g8 w9 hN10
 have hf12 : w.heap.size ≤ g8 := hN10.fresh
 have hfr14 := hN10.fresh
 have hc13 := hN10.chg
 have hz16 := hc13.size
 have hC15 := (Chg.refl [g0_, g1_, g2_] w).pure hc13
 have hb11 := hN10.blk
 have hg17 := hb11.lt
 refine WR.store (t := 76) (o := 0) (v := .agg #[]) hb11 (by kernel_rfl) #[] (by kernel_rfl) ?_
 intro w18 hb19 hc20
 have hz22 := hc20.size
 have hC21 := hC15.step1 hc20 (by omega)
 refine WR.batch 1 [(0, pt g0_ 0), (1, pt g1_ 0), (2, pt g2_ 0), (3, .iface 76 (.agg #[])), (5, .bool true)] (by kernel_rfl) ?_
 refine WR.fin (by kernel_rfl) ?_
 refine go hK7 ?_
 refine CW.seq fun K23 hK23 => ?_
 refine CW.region ?_
 refine WR.batch 2 [(0, pt g0_ 0), (1, pt g1_ 0), (2, pt g2_ 0), (3, .iface 76 (.agg #[])), (15, .bool false)] (by kernel_rfl) ?_
 refine WR.fin (by kernel_rfl) ?_
 refine go hK23 ?_
 refine CW.no (by kernel_rfl) ?_
 refine CW.skip ?_
 refine go hK6 ?_
 refine CW.region ?_
 refine WR.batch 2 [(0, pt g0_ 0), (1, pt g1_ 0), (2, pt g2_ 0), (17, .agg #[.int .u64 0, .int .u64 0]), (18, .agg #[.int .u64 0, .int .u64 0])] (by kernel_rfl) ?_
 have hb27 := (hb0_.pure hc13).chg1 hc20 (by omega)
 refine WR.store (t := 25) (o := 0) (v := .agg #[.int .u64 0, .int .u64 0]) hb27 (by kernel_rfl) #[.int .u64 0, .int .u64 0] (by kernel_rfl) ?_
 intro w24 hb25 hc26
 have hz29 := hc26.size
 have hC28 := hC21.step hc26 (by intro t ht; simp only [List.mem_cons, List.not_mem_nil, or_false] at ht; subst ht; first | exact .inr (by omega) | exact .inl (by simp))
 have hb33 := ((hb1_.pure hc13).chg1 hc20 (by omega)).chg1 hc26 (by omega)
 refine WR.store (t := 25) (o := 0) (v := .agg #[.int .u64 0, .int .u64 0]) hb33 (by kernel_rfl) #[.int .u64 0, .int .u64 0] (by kernel_rfl) ?_
 intro w30 hb31 hc32
 have hz35 := hc32.size
 have hC34 := hC28.step hc32 (by intro t ht; simp only [List.mem_cons, List.not_mem_nil, or_false] at ht; subst ht; first | exact .inr (by omega) | exact .inl (by simp))
 have hb39 := (((hb2_.pure hc13).chg1 hc20 (by omega)).chg1 hc26 (by omega)).chg1 hc32 (by omega)
 refine WR.store (t := 4) (o := 0) (v := .bool false) hb39 (by kernel_rfl) #[.bool false] (by kernel_rfl) ?_
 intro w36 hb37 hc38
 have hz41 := hc38.size
 have hC40 := hC34.step hc38 (by intro t ht; simp only [List.mem_cons, List.not_mem_nil, or_false] at ht; subst ht; first | exact .inr (by omega) | exact .inl (by simp))
 refine WR.fin (by kernel_rfl) ?_
 have hb42 := (hb25.chg1 hc32 (by omega)).chg1 hc38 (by omega)
 have hb43 := hb31.chg1 hc38 (by omega)
 exact endV (P := Try.prog) (fn := Try.f56) (.tuple #[]) (by kernel_rfl) ⟨⟨_, rfl⟩, rfl, hC40, hb42, hb43, hb37⟩

theorem span_rules_any (w : World) : Calls Try.prog 53 #[] w (Ret [] w fun v w' => ∃ g, v = .map (some g) ∧ Mp w' g #[({ key := .int .u8 (1 : Int), val := .func (.func 76) #[] #[], born := 0 } : MapEntry), ({ key := .int .u8 (2 : Int), val := .func (.func 77) #[] #[], born := 1 } : MapEntry), ({ key := .int .u8 (3 : Int), val := .func (.func 78) #[] #[], born := 2 } : MapEntry), ({ key := .int .u8 (4 : Int), val := .func (.func 79) #[] #[], born := 3 } : MapEntry), ({ key := .int .u8 (5 : Int), val := .func (.func 80) #[] #[], born := 4 } : MapEntry), ({ key := .int .u8 (6 : Int), val := .func (.func 81) #[] #[], born := 5 } : MapEntry), ({ key := .int .u8 (7 : Int), val := .func (.func 82) #[] #[], born := 6 } : MapEntry), ({ key := .int .u8 (8 : Int), val := .func (.func 83) #[] #[], born := 7 } : MapEntry), ({ key := .int .u8 (9 : Int), val := .func (.func 84) #[] #[], born := 8 } : MapEntry), ({ key := .int .u8 (10 : Int), val := .func (.func 85) #[] #[], born := 9 } : MapEntry), ({ key := .int .u8 (11 : Int), val := .func (.func 86) #[] #[], born := 10 } : MapEntry), ({ key := .int .u8 (12 : Int), val := .func (.func 87) #[] #[], born := 11 } : MapEntry), ({ key := .int .u8 (13 : Int), val := .func (.func 88) #[] #[], born := 12 } : MapEntry)] 13 ∧ w.heap.size ≤ g) := by
 refine calls_of_CW Try.func53 rfl (n := 3) Try.ntmps53 (by kernel_rfl) [] (F := []) (by kernel_rfl) ?_
 refine CW.seq fun K1 hK1 => ?_
 refine CW.region ?_
 refine WR.batch 1 [] (by kernel_rfl) ?_
 refine WR.fin (by kernel_rfl) ?_
 refine go hK1 ?_
 refine CW.seq fun K2 hK2 => ?_
 refine CW.region ?_
 refine WR.mkMap (dst := some 1) (t := 73) (by kernel_rfl) ?_
 intro g3 w4 hN5
 have hf7 : w.heap.size ≤ g3 := hN5.fresh
 have hfr9 := hN5.fresh
 have hc8 := hN5.chg
 have hz11 := hc8.size
 have hC10 := (Chg.refl [] w).pure hc8
 have hb6 := hN5.blk
 have hg12 := hb6.lt
 refine WR.insert (t := 73) (kt := 22) (et := 71) (d := .int .u8) (x := .int .u8 1) (v := .func (.func 76) #[] #[]) hb6 (by kernel_rfl) (by kernel_rfl) rfl (by kernel_rfl) #[({ key := .int .u8 1, val := .func (.func 76) #[] #[], born := 0 } : MapEntry)] (by kernel_rfl) ?_
 intro w13 hb14 hc15
 have hz17 := hc15.size
 have hC16 := hC10.step1 hc15 (by omega)
 refine WR.insert (t := 73) (kt := 22) (et := 71) (d := .int .u8) (x := .int .u8 2) (v := .func (.func 77) #[] #[]) hb14 (by kernel_rfl) (by kernel_rfl) rfl (by kernel_rfl) #[({ key := .int .u8 1, val := .func (.func 76) #[] #[], born := 0 } : MapEntry), ({ key := .int .u8 2, val := .func (.func 77) #[] #[], born := 1 } : MapEntry)] (by kernel_rfl) ?_
 intro w18 hb19 hc20
 have hz22 := hc20.size
 have hC21 := hC16.step1 hc20 (by omega)
 refine WR.insert (t := 73) (kt := 22) (et := 71) (d := .int .u8) (x := .int .u8 3) (v := .func (.func 78) #[] #[]) hb19 (by kernel_rfl) (by kernel_rfl) rfl (by kernel_rfl) #[({ key := .int .u8 1, val := .func (.func 76) #[] #[], born := 0 } : MapEntry), ({ key := .int .u8 2, val := .func (.func 77) #[] #[], born := 1 } : MapEntry), ({ key := .int .u8 3, val := .func (.func 78) #[] #[], born := 2 } : MapEntry)] (by kernel_rfl) ?_
 intro w23 hb24 hc25
 have hz27 := hc25.size
 have hC26 := hC21.step1 hc25 (by omega)
 refine WR.insert (t := 73) (kt := 22) (et := 71) (d := .int .u8) (x := .int .u8 4) (v := .func (.func 79) #[] #[]) hb24 (by kernel_rfl) (by kernel_rfl) rfl (by kernel_rfl) #[({ key := .int .u8 1, val := .func (.func 76) #[] #[], born := 0 } : MapEntry), ({ key := .int .u8 2, val := .func (.func 77) #[] #[], born := 1 } : MapEntry), ({ key := .int .u8 3, val := .func (.func 78) #[] #[], born := 2 } : MapEntry), ({ key := .int .u8 4, val := .func (.func 79) #[] #[], born := 3 } : MapEntry)] (by kernel_rfl) ?_
 intro w28 hb29 hc30
 have hz32 := hc30.size
 have hC31 := hC26.step1 hc30 (by omega)
 refine WR.insert (t := 73) (kt := 22) (et := 71) (d := .int .u8) (x := .int .u8 5) (v := .func (.func 80) #[] #[]) hb29 (by kernel_rfl) (by kernel_rfl) rfl (by kernel_rfl) #[({ key := .int .u8 1, val := .func (.func 76) #[] #[], born := 0 } : MapEntry), ({ key := .int .u8 2, val := .func (.func 77) #[] #[], born := 1 } : MapEntry), ({ key := .int .u8 3, val := .func (.func 78) #[] #[], born := 2 } : MapEntry), ({ key := .int .u8 4, val := .func (.func 79) #[] #[], born := 3 } : MapEntry), ({ key := .int .u8 5, val := .func (.func 80) #[] #[], born := 4 } : MapEntry)] (by kernel_rfl) ?_
 intro w33 hb34 hc35
 have hz37 := hc35.size
 have hC36 := hC31.step1 hc35 (by omega)
 refine WR.insert (t := 73) (kt := 22) (et := 71) (d := .int .u8) (x := .int .u8 6) (v := .func (.func 81) #[] #[]) hb34 (by kernel_rfl) (by kernel_rfl) rfl (by kernel_rfl) #[({ key := .int .u8 1, val := .func (.func 76) #[] #[], born := 0 } : MapEntry), ({ key := .int .u8 2, val := .func (.func 77) #[] #[], born := 1 } : MapEntry), ({ key := .int .u8 3, val := .func (.func 78) #[] #[], born := 2 } : MapEntry), ({ key := .int .u8 4, val := .func (.func 79) #[] #[], born := 3 } : MapEntry), ({ key := .int .u8 5, val := .func (.func 80) #[] #[], born := 4 } : MapEntry), ({ key := .int .u8 6, val := .func (.func 81) #[] #[], born := 5 } : MapEntry)] (by kernel_rfl) ?_
 intro w38 hb39 hc40
 have hz42 := hc40.size
 have hC41 := hC36.step1 hc40 (by omega)
 refine WR.insert (t := 73) (kt := 22) (et := 71) (d := .int .u8) (x := .int .u8 7) (v := .func (.func 82) #[] #[]) hb39 (by kernel_rfl) (by kernel_rfl) rfl (by kernel_rfl) #[({ key := .int .u8 1, val := .func (.func 76) #[] #[], born := 0 } : MapEntry), ({ key := .int .u8 2, val := .func (.func 77) #[] #[], born := 1 } : MapEntry), ({ key := .int .u8 3, val := .func (.func 78) #[] #[], born := 2 } : MapEntry), ({ key := .int .u8 4, val := .func (.func 79) #[] #[], born := 3 } : MapEntry), ({ key := .int .u8 5, val := .func (.func 80) #[] #[], born := 4 } : MapEntry), ({ key := .int .u8 6, val := .func (.func 81) #[] #[], born := 5 } : MapEntry), ({ key := .int .u8 7, val := .func (.func 82) #[] #[], born := 6 } : MapEntry)] (by kernel_rfl) ?_
 intro w43 hb44 hc45
 have hz47 := hc45.size
 have hC46 := hC41.step1 hc45 (by omega)
 refine WR.insert (t := 73) (kt := 22) (et := 71) (d := .int .u8) (x := .int .u8 8) (v := .func (.func 83) #[] #[]) hb44 (by kernel_rfl) (by kernel_rfl) rfl (by kernel_rfl) #[({ key := .int .u8 1, val := .func (.func 76) #[] #[], born := 0 } : MapEntry), ({ key := .int .u8 2, val := .func (.func 77) #[] #[], born := 1 } : MapEntry), ({ key := .int .u8 3, val := .func (.func 78) #[] #[], born := 2 } : MapEntry), ({ key := .int .u8 4, val := .func (.func 79) #[] #[], born := 3 } : MapEntry), ({ key := .int .u8 5, val := .func (.func 80) #[] #[], born := 4 } : MapEntry), ({ key := .int .u8 6, val := .func (.func 81) #[] #[], born := 5 } : MapEntry), ({ key := .int .u8 7, val := .func (.func 82) #[] #[], born := 6 } : MapEntry), ({ key := .int .u8 8, val := .func (.func 83) #[] #[], born := 7 } : MapEntry)] (by kernel_rfl) ?_
 intro w48 hb49 hc50
 have hz52 := hc50.size
 have hC51 := hC46.step1 hc50 (by omega)
 refine WR.insert (t := 73) (kt := 22) (et := 71) (d := .int .u8) (x := .int .u8 9) (v := .func (.func 84) #[] #[]) hb49 (by kernel_rfl) (by kernel_rfl) rfl (by kernel_rfl) #[({ key := .int .u8 1, val := .func (.func 76) #[] #[], born := 0 } : MapEntry), ({ key := .int .u8 2, val := .func (.func 77) #[] #[], born := 1 } : MapEntry), ({ key := .int .u8 3, val := .func (.func 78) #[] #[], born := 2 } : MapEntry), ({ key := .int .u8 4, val := .func (.func 79) #[] #[], born := 3 } : MapEntry), ({ key := .int .u8 5, val := .func (.func 80) #[] #[], born := 4 } : MapEntry), ({ key := .int .u8 6, val := .func (.func 81) #[] #[], born := 5 } : MapEntry), ({ key := .int .u8 7, val := .func (.func 82) #[] #[], born := 6 } : MapEntry), ({ key := .int .u8 8, val := .func (.func 83) #[] #[], born := 7 } : MapEntry), ({ key := .int .u8 9, val := .func (.func 84) #[] #[], born := 8 } : MapEntry)] (by kernel_rfl) ?_
 intro w53 hb54 hc55
 have hz57 := hc55.size
 have hC56 := hC51.step1 hc55 (by omega)
 refine WR.insert (t := 73) (kt := 22) (et := 71) (d := .int .u8) (x := .int .u8 10) (v := .func (.func 85) #[] #[]) hb54 (by kernel_rfl) (by kernel_rfl) rfl (by kernel_rfl) #[({ key := .int .u8 1, val := .func (.func 76) #[] #[], born := 0 } : MapEntry), ({ key := .int .u8 2, val := .func (.func 77) #[] #[], born := 1 } : MapEntry), ({ key := .int .u8 3, val := .func (.func 78) #[] #[], born := 2 } : MapEntry), ({ key := .int .u8 4, val := .func (.func 79) #[] #[], born := 3 } : MapEntry), ({ key := .int .u8 5, val := .func (.func 80) #[] #[], born := 4 } : MapEntry), ({ key := .int .u8 6, val := .func (.func 81) #[] #[], born := 5 } : MapEntry), ({ key := .int .u8 7, val := .func (.func 82) #[] #[], born := 6 } : MapEntry), ({ key := .int .u8 8, val := .func (.func 83) #[] #[], born := 7 } : MapEntry), ({ key := .int .u8 9, val := .func (.func 84) #[] #[], born := 8 } : MapEntry), ({ key := .int .u8 10, val := .func (.func 85) #[] #[], born := 9 } : MapEntry)] (by kernel_rfl) ?_
 intro w58 hb59 hc60
 have hz62 := hc60.size
 have hC61 := hC56.step1 hc60 (by omega)
 refine WR.insert (t := 73) (kt := 22) (et := 71) (d := .int .u8) (x := .int .u8 11) (v := .func (.func 86) #[] #[]) hb59 (by kernel_rfl) (by kernel_rfl) rfl (by kernel_rfl) #[({ key := .int .u8 1, val := .func (.func 76) #[] #[], born := 0 } : MapEntry), ({ key := .int .u8 2, val := .func (.func 77) #[] #[], born := 1 } : MapEntry), ({ key := .int .u8 3, val := .func (.func 78) #[] #[], born := 2 } : MapEntry), ({ key := .int .u8 4, val := .func (.func 79) #[] #[], born := 3 } : MapEntry), ({ key := .int .u8 5, val := .func (.func 80) #[] #[], born := 4 } : MapEntry), ({ key := .int .u8 6, val := .func (.func 81) #[] #[], born := 5 } : MapEntry), ({ key := .int .u8 7, val := .func (.func 82) #[] #[], born := 6 } : MapEntry), ({ key := .int .u8 8, val := .func (.func 83) #[] #[], born := 7 } : MapEntry), ({ key := .int .u8 9, val := .func (.func 84) #[] #[], born := 8 } : MapEntry), ({ key := .int .u8 10, val := .func (.func 85) #[] #[], born := 9 } : MapEntry), ({ key := .int .u8 11, val := .func (.func 86) #[] #[], born := 10 } : MapEntry)] (by kernel_rfl) ?_
 intro w63 hb64 hc65
 have hz67 := hc65.size
 have hC66 := hC61.step1 hc65 (by omega)
 refine WR.insert (t := 73) (kt := 22) (et := 71) (d := .int .u8) (x := .int .u8 12) (v := .func (.func 87) #[] #[]) hb64 (by kernel_rfl) (by kernel_rfl) rfl (by kernel_rfl) #[({ key := .int .u8 1, val := .func (.func 76) #[] #[], born := 0 } : MapEntry), ({ key := .int .u8 2, val := .func (.func 77) #[] #[], born := 1 } : MapEntry), ({ key := .int .u8 3, val := .func (.func 78) #[] #[], born := 2 } : MapEntry), ({ key := .int .u8 4, val := .func (.func 79) #[] #[], born := 3 } : MapEntry), ({ key := .int .u8 5, val := .func (.func 80) #[] #[], born := 4 } : MapEntry), ({ key := .int .u8 6, val := .func (.func 81) #[] #[], born := 5 } : MapEntry), ({ key := .int .u8 7, val := .func (.func 82) #[] #[], born := 6 } : MapEntry), ({ key := .int .u8 8, val := .func (.func 83) #[] #[], born := 7 } : MapEntry), ({ key := .int .u8 9, val := .func (.func 84) #[] #[], born := 8 } : MapEntry), ({ key := .int .u8 10, val := .func (.func 85) #[] #[], born := 9 } : MapEntry), ({ key := .int .u8 11, val := .func (.func 86) #[] #[], born := 10 } : MapEntry), ({ key := .int .u8 12, val := .func (.func 87) #[] #[], born := 11 } : MapEntry)] (by kernel_rfl) ?_
 intro w68 hb69 hc70
 have hz72 := hc70.size
 have hC71 := hC66.step1 hc70 (by omega)
 refine WR.insert (t := 73) (kt := 22) (et := 71) (d := .int .u8) (x := .int .u8 13) (v := .func (.func 88) #[] #[]) hb69 (by kernel_rfl) (by kernel_rfl) rfl (by kernel_rfl) #[({ key := .int .u8 1, val := .func (.func 76) #[] #[], born := 0 } : MapEntry), ({ key := .int .u8 2, val := .func (.func 77) #[] #[], born := 1 } : MapEntry), ({ key := .int .u8 3, val := .func (.func 78) #[] #[], born := 2 } : MapEntry), ({ key := .int .u8 4, val := .func (.func 79) #[] #[], born := 3 } : MapEntry), ({ key := .int .u8 5, val := .func (.func 80) #[] #[], born := 4 } : MapEntry), ({ key := .int .u8 6, val := .func (.func 81) #[] #[], born := 5 } : MapEntry), ({ key := .int .u8 7, val := .func (.func 82) #[] #[], born := 6 } : MapEntry), ({ key := .int .u8 8, val := .func (.func 83) #[] #[], born := 7 } : MapEntry), ({ key := .int .u8 9, val := .func (.func 84) #[] #[], born := 8 } : MapEntry), ({ key := .int .u8 10, val := .func (.func 85) #[] #[], born := 9 } : MapEntry), ({ key := .int .u8 11, val := .func (.func 86) #[] #[], born := 10 } : MapEntry), ({ key := .int .u8 12, val := .func (.func 87) #[] #[], born := 11 } : MapEntry), ({ key := .int .u8 13, val := .func (.func 88) #[] #[], born := 12 } : MapEntry)] (by kernel_rfl) ?_
 intro w73 hb74 hc75
 have hz77 := hc75.size
 have hC76 := hC71.step1 hc75 (by omega)
 refine WR.batch 2 [(0, .map (some g3))] (by kernel_rfl) ?_
 refine WR.fin (by kernel_rfl) ?_
 refine go hK2 ?_
 refine CW.ret ?_
 exact retV (.map (some g3)) (by kernel_rfl) ⟨hC76, g3, rfl, hb74, by omega⟩

theorem span_over_size (a0 : Bool) (a1 a2 : TSpan) : (span_over a0 a1 a2).size = 32 ∨ (span_over a0 a1 a2).size = 64 := by
  rw [span_over.eq_1]
  cases a0 <;> simp

def rule0_f (x : Int) : Value := if x == (1 : Int) then .func (.func 76) #[] #[] else if x == (2 : Int) then .func (.func 77) #[] #[] else if x == (3 : Int) then .func (.func 78) #[] #[] else if x == (4 : Int) then .func (.func 79) #[] #[] else if x == (5 : Int) then .func (.func 80) #[] #[] else if x == (6 : Int) then .func (.func 81) #[] #[] else if x == (7 : Int) then .func (.func 82) #[] #[] else if x == (8 : Int) then .func (.func 83) #[] #[] else if x == (9 : Int) then .func (.func 84) #[] #[] else if x == (10 : Int) then .func (.func 85) #[] #[] else if x == (11 : Int) then .func (.func 86) #[] #[] else if x == (12 : Int) then .func (.func 87) #[] #[] else if x == (13 : Int) then .func (.func 88) #[] #[] else .nilFunc
def rule0_is (x : Int) : Bool := (x == (1 : Int)) || (x == (2 : Int)) || (x == (3 : Int)) || (x == (4 : Int)) || (x == (5 : Int)) || (x == (6 : Int)) || (x == (7 : Int)) || (x == (8 : Int)) || (x == (9 : Int)) || (x == (10 : Int)) || (x == (11 : Int)) || (x == (12 : Int)) || (x == (13 : Int))
theorem rule0_look (x : Int) : ∃ r, Instr.findNow (.int .u8) (.int .u8 x) #[({ key := .int .u8 (1 : Int), val := .func (.func 76) #[] #[], born := 0 } : MapEntry), ({ key := .int .u8 (2 : Int), val := .func (.func 77) #[] #[], born := 1 } : MapEntry), ({ key := .int .u8 (3 : Int), val := .func (.func 78) #[] #[], born := 2 } : MapEntry), ({ key := .int .u8 (4 : Int), val := .func (.func 79) #[] #[], born := 3 } : MapEntry), ({ key := .int .u8 (5 : Int), val := .func (.func 80) #[] #[], born := 4 } : MapEntry), ({ key := .int .u8 (6 : Int), val := .func (.func 81) #[] #[], born := 5 } : MapEntry), ({ key := .int .u8 (7 : Int), val := .func (.func 82) #[] #[], born := 6 } : MapEntry), ({ key := .int .u8 (8 : Int), val := .func (.func 83) #[] #[], born := 7 } : MapEntry), ({ key := .int .u8 (9 : Int), val := .func (.func 84) #[] #[], born := 8 } : MapEntry), ({ key := .int .u8 (10 : Int), val := .func (.func 85) #[] #[], born := 9 } : MapEntry), ({ key := .int .u8 (11 : Int), val := .func (.func 86) #[] #[], born := 10 } : MapEntry), ({ key := .int .u8 (12 : Int), val := .func (.func 87) #[] #[], born := 11 } : MapEntry), ({ key := .int .u8 (13 : Int), val := .func (.func 88) #[] #[], born := 12 } : MapEntry)].toList 0 = some r ∧ lkV (.nilFunc) true r = .tuple #[rule0_f x, .bool (rule0_is x)] := by
 rcases Bool.eq_false_or_eq_true (x == (1 : Int)) with h0 | h0
 · rw [bEqT h0]; exact ⟨_, rfl, rfl⟩
 rcases Bool.eq_false_or_eq_true (x == (2 : Int)) with h1 | h1
 · rw [bEqT h1]; exact ⟨_, rfl, rfl⟩
 rcases Bool.eq_false_or_eq_true (x == (3 : Int)) with h2 | h2
 · rw [bEqT h2]; exact ⟨_, rfl, rfl⟩
 rcases Bool.eq_false_or_eq_true (x == (4 : Int)) with h3 | h3
 · rw [bEqT h3]; exact ⟨_, rfl, rfl⟩
 rcases Bool.eq_false_or_eq_true (x == (5 : Int)) with h4 | h4
 · rw [bEqT h4]; exact ⟨_, rfl, rfl⟩
 rcases Bool.eq_false_or_eq_true (x == (6 : Int)) with h5 | h5
 · rw [bEqT h5]; exact ⟨_, rfl, rfl⟩
 rcases Bool.eq_false_or_eq_true (x == (7 : Int)) with h6 | h6
 · rw [bEqT h6]; exact ⟨_, rfl, rfl⟩
 rcases Bool.eq_false_or_eq_true (x == (8 : Int)) with h7 | h7
 · rw [bEqT h7]; exact ⟨_, rfl, rfl⟩
 rcases Bool.eq_false_or_eq_true (x == (9 : Int)) with h8 | h8
 · rw [bEqT h8]; exact ⟨_, rfl, rfl⟩
 rcases Bool.eq_false_or_eq_true (x == (10 : Int)) with h9 | h9
 · rw [bEqT h9]; exact ⟨_, rfl, rfl⟩
 rcases Bool.eq_false_or_eq_true (x == (11 : Int)) with h10 | h10
 · rw [bEqT h10]; exact ⟨_, rfl, rfl⟩
 rcases Bool.eq_false_or_eq_true (x == (12 : Int)) with h11 | h11
 · rw [bEqT h11]; exact ⟨_, rfl, rfl⟩
 rcases Bool.eq_false_or_eq_true (x == (13 : Int)) with h12 | h12
 · rw [bEqT h12]; exact ⟨_, rfl, rfl⟩
 refine ⟨none, findNow_no _ _ _ _ (by simp only [keysNe, h0, h1, h2, h3, h4, h5, h6, h7, h8, h9, h10, h11, h12]; rfl), ?_⟩
 simp only [lkV, rule0_f, rule0_is, h0, h1, h2, h3, h4, h5, h6, h7, h8, h9, h10, h11, h12]; rfl

def span_Do (a0 : Int) (a1 : Bool) (a2 : TSpan) (a3 : TSpan)  : TSpan := (if (((!(rule0_is a0)) || (!(span_Right a2))) || (!(span_Right a3))) then (letF (span_All a1) fun x84 => x84) else (letF (span_over a1 a2 a3) fun x104 => (if (a0 == (1 : Int)) then (optF (span_work_add x104) ((span_All a1)) fun x115 => x115) else (if (a0 == (2 : Int)) then (optF (span_work_sub x104) ((span_All a1)) fun x140 => x140) else (if (a0 == (3 : Int)) then (optF (span_work_mul x104) ((span_All a1)) fun x165 => x165) else (if (a0 == (4 : Int)) then (letF (span_work_div x104) fun x190 => x190) else (if (a0 == (5 : Int)) then (letF (span_work_mod x104) fun x208 => x208) else (if (a0 == (6 : Int)) then (letF (span_work_and x104) fun x226 => x226) else (if (a0 == (7 : Int)) then (letF (span_work_or x104) fun x244 => x244) else (if (a0 == (8 : Int)) then (letF (span_work_xor x104) fun x262 => x262) else (if (a0 == (9 : Int)) then (optF (span_work_shl x104) ((span_All a1)) fun x280 => x280) else (if (a0 == (10 : Int)) then (letF (span_work_shr x104) fun x305 => x305) else (if (a0 == (11 : Int)) then (optF (span_work_sar x104) ((span_All a1)) fun x323 => x323) else (if (a0 == (12 : Int)) then (letF (span_work_mov x104) fun x348 => x348) else (if (a0 == (13 : Int)) then (optF (span_work_neg x104) ((span_All a1)) fun x366 => x366) else default)))))))))))))))

theorem span_Do_ok (a0 : Int) (a1 : Bool) (a2 : TSpan) (a3 : TSpan)  (_h_a0 : IU8 a0) (_h_a2 : IU64 a2.Lo ∧ IU64 a2.Hi) (_h_a3 : IU64 a3.Lo ∧ IU64 a3.Hi)  : IU64 (span_Do a0 a1 a2 a3).Lo ∧ IU64 (span_Do a0 a1 a2 a3).Hi := by
 rw [span_Do.eq_1]
 refine iteR (p := fun r : TSpan => IU64 r.Lo ∧ IU64 r.Hi) (fun hi1001 => ?_) (fun hi1001 => ?_)
 ·
  replace hi1001 : (((rule0_is a0) = false) ∨ ((span_Right a2) = false)) ∨ ((span_Right a3) = false) := (orMap (bOrT hi1001) (fun h => (orMap (bOrT h) (fun h => (bNotT h)) (fun h => (bNotT h)))) (fun h => (bNotT h)))
  refine letR (p := fun r : TSpan => IU64 r.Lo ∧ IU64 r.Hi) fun x84 hx85 => ?_
  have hx86 : IU64 x84.Lo ∧ IU64 x84.Hi := by rw [← hx85]; exact span_All_ok a1 
  exact (by exact (show IU64 x84.Lo ∧ IU64 x84.Hi from ⟨(by omega), (by omega)⟩))
 replace hi1001 : (((rule0_is a0) = true) ∧ ((span_Right a2) = true)) ∧ ((span_Right a3) = true) := ⟨⟨(bNotF (bOrF (bOrF hi1001).1).1), (bNotF (bOrF (bOrF hi1001).1).2)⟩, (bNotF (bOrF hi1001).2)⟩
 refine letR (p := fun r : TSpan => IU64 r.Lo ∧ IU64 r.Hi) fun x104 hx105 => ?_
 have hxx104_ : x104.size = 32 ∨ x104.size = 64 := by rw [← hx105]; exact span_over_size _ _ _
 have hx106 : IU64 x104.a.Lo ∧ IU64 x104.a.Hi ∧ IU64 x104.b.Lo ∧ IU64 x104.b.Hi ∧ IU64 x104.most ∧ IU64 x104.size := by rw [← hx105]; exact span_over_ok a1 a2 a3 ⟨(by omega), (by omega)⟩ ⟨(by omega), (by omega)⟩ 
 refine iteR (p := fun r : TSpan => IU64 r.Lo ∧ IU64 r.Hi) (fun hi1002 => ?_) (fun hi1002 => ?_)
 ·
  replace hi1002 : a0 = (1 : Int) := (bEqT hi1002)
  refine optR (p := fun r : TSpan => IU64 r.Lo ∧ IU64 r.Hi) (fun _ => ?_) (fun x115 hx116 => ?_)
  ·
   exact (by have : IU64 (span_All a1).Lo ∧ IU64 (span_All a1).Hi := span_All_ok a1 ; exact (show IU64 (span_All a1).Lo ∧ IU64 (span_All a1).Hi from ⟨(by omega), (by omega)⟩))
  have hx117 : IU64 x115.Lo ∧ IU64 x115.Hi := by exact span_work_add_ok x104 ⟨(by omega), (by omega), (by omega), (by omega), (by omega), (by omega)⟩  _ hx116
  exact (by exact (show IU64 x115.Lo ∧ IU64 x115.Hi from ⟨(by omega), (by omega)⟩))
 replace hi1002 : a0 ≠ (1 : Int) := (bEqF hi1002)
 refine iteR (p := fun r : TSpan => IU64 r.Lo ∧ IU64 r.Hi) (fun hi1003 => ?_) (fun hi1003 => ?_)
 ·
  replace hi1003 : a0 = (2 : Int) := (bEqT hi1003)
  refine optR (p := fun r : TSpan => IU64 r.Lo ∧ IU64 r.Hi) (fun _ => ?_) (fun x140 hx141 => ?_)
  ·
   exact (by have : IU64 (span_All a1).Lo ∧ IU64 (span_All a1).Hi := span_All_ok a1 ; exact (show IU64 (span_All a1).Lo ∧ IU64 (span_All a1).Hi from ⟨(by omega), (by omega)⟩))
  have hx142 : IU64 x140.Lo ∧ IU64 x140.Hi := by exact span_work_sub_ok x104 ⟨(by omega), (by omega), (by omega), (by omega), (by omega), (by omega)⟩  _ hx141
  exact (by exact (show IU64 x140.Lo ∧ IU64 x140.Hi from ⟨(by omega), (by omega)⟩))
 replace hi1003 : a0 ≠ (2 : Int) := (bEqF hi1003)
 refine iteR (p := fun r : TSpan => IU64 r.Lo ∧ IU64 r.Hi) (fun hi1004 => ?_) (fun hi1004 => ?_)
 ·
  replace hi1004 : a0 = (3 : Int) := (bEqT hi1004)
  refine optR (p := fun r : TSpan => IU64 r.Lo ∧ IU64 r.Hi) (fun _ => ?_) (fun x165 hx166 => ?_)
  ·
   exact (by have : IU64 (span_All a1).Lo ∧ IU64 (span_All a1).Hi := span_All_ok a1 ; exact (show IU64 (span_All a1).Lo ∧ IU64 (span_All a1).Hi from ⟨(by omega), (by omega)⟩))
  have hx167 : IU64 x165.Lo ∧ IU64 x165.Hi := by exact span_work_mul_ok x104 ⟨(by omega), (by omega), (by omega), (by omega), (by omega), (by omega)⟩  _ hx166
  exact (by exact (show IU64 x165.Lo ∧ IU64 x165.Hi from ⟨(by omega), (by omega)⟩))
 replace hi1004 : a0 ≠ (3 : Int) := (bEqF hi1004)
 refine iteR (p := fun r : TSpan => IU64 r.Lo ∧ IU64 r.Hi) (fun hi1005 => ?_) (fun hi1005 => ?_)
 ·
  replace hi1005 : a0 = (4 : Int) := (bEqT hi1005)
  refine letR (p := fun r : TSpan => IU64 r.Lo ∧ IU64 r.Hi) fun x190 hx191 => ?_
  have hx192 : IU64 x190.Lo ∧ IU64 x190.Hi := by rw [← hx191]; exact span_work_div_ok x104 ⟨(by omega), (by omega), (by omega), (by omega), (by omega), (by omega)⟩ 
  exact (by exact (show IU64 x190.Lo ∧ IU64 x190.Hi from ⟨(by omega), (by omega)⟩))
 replace hi1005 : a0 ≠ (4 : Int) := (bEqF hi1005)
 refine iteR (p := fun r : TSpan => IU64 r.Lo ∧ IU64 r.Hi) (fun hi1006 => ?_) (fun hi1006 => ?_)
 ·
  replace hi1006 : a0 = (5 : Int) := (bEqT hi1006)
  refine letR (p := fun r : TSpan => IU64 r.Lo ∧ IU64 r.Hi) fun x208 hx209 => ?_
  have hx210 : IU64 x208.Lo ∧ IU64 x208.Hi := by rw [← hx209]; exact span_work_mod_ok x104 ⟨(by omega), (by omega), (by omega), (by omega), (by omega), (by omega)⟩ 
  exact (by exact (show IU64 x208.Lo ∧ IU64 x208.Hi from ⟨(by omega), (by omega)⟩))
 replace hi1006 : a0 ≠ (5 : Int) := (bEqF hi1006)
 refine iteR (p := fun r : TSpan => IU64 r.Lo ∧ IU64 r.Hi) (fun hi1007 => ?_) (fun hi1007 => ?_)
 ·
  replace hi1007 : a0 = (6 : Int) := (bEqT hi1007)
  refine letR (p := fun r : TSpan => IU64 r.Lo ∧ IU64 r.Hi) fun x226 hx227 => ?_
  have hx228 : IU64 x226.Lo ∧ IU64 x226.Hi := by rw [← hx227]; exact span_work_and_ok x104 ⟨(by omega), (by omega), (by omega), (by omega), (by omega), (by omega)⟩ 
  exact (by exact (show IU64 x226.Lo ∧ IU64 x226.Hi from ⟨(by omega), (by omega)⟩))
 replace hi1007 : a0 ≠ (6 : Int) := (bEqF hi1007)
 refine iteR (p := fun r : TSpan => IU64 r.Lo ∧ IU64 r.Hi) (fun hi1008 => ?_) (fun hi1008 => ?_)
 ·
  replace hi1008 : a0 = (7 : Int) := (bEqT hi1008)
  refine letR (p := fun r : TSpan => IU64 r.Lo ∧ IU64 r.Hi) fun x244 hx245 => ?_
  have hx246 : IU64 x244.Lo ∧ IU64 x244.Hi := by rw [← hx245]; exact span_work_or_ok x104 ⟨(by omega), (by omega), (by omega), (by omega), (by omega), (by omega)⟩ 
  exact (by exact (show IU64 x244.Lo ∧ IU64 x244.Hi from ⟨(by omega), (by omega)⟩))
 replace hi1008 : a0 ≠ (7 : Int) := (bEqF hi1008)
 refine iteR (p := fun r : TSpan => IU64 r.Lo ∧ IU64 r.Hi) (fun hi1009 => ?_) (fun hi1009 => ?_)
 ·
  replace hi1009 : a0 = (8 : Int) := (bEqT hi1009)
  refine letR (p := fun r : TSpan => IU64 r.Lo ∧ IU64 r.Hi) fun x262 hx263 => ?_
  have hx264 : IU64 x262.Lo ∧ IU64 x262.Hi := by rw [← hx263]; exact span_work_xor_ok x104 ⟨(by omega), (by omega), (by omega), (by omega), (by omega), (by omega)⟩ 
  exact (by exact (show IU64 x262.Lo ∧ IU64 x262.Hi from ⟨(by omega), (by omega)⟩))
 replace hi1009 : a0 ≠ (8 : Int) := (bEqF hi1009)
 refine iteR (p := fun r : TSpan => IU64 r.Lo ∧ IU64 r.Hi) (fun hi1010 => ?_) (fun hi1010 => ?_)
 ·
  replace hi1010 : a0 = (9 : Int) := (bEqT hi1010)
  refine optR (p := fun r : TSpan => IU64 r.Lo ∧ IU64 r.Hi) (fun _ => ?_) (fun x280 hx281 => ?_)
  ·
   exact (by have : IU64 (span_All a1).Lo ∧ IU64 (span_All a1).Hi := span_All_ok a1 ; exact (show IU64 (span_All a1).Lo ∧ IU64 (span_All a1).Hi from ⟨(by omega), (by omega)⟩))
  have hx282 : IU64 x280.Lo ∧ IU64 x280.Hi := by exact span_work_shl_ok x104 ⟨(by omega), (by omega), (by omega), (by omega), (by omega), (by omega)⟩ (by omega) _ hx281
  exact (by exact (show IU64 x280.Lo ∧ IU64 x280.Hi from ⟨(by omega), (by omega)⟩))
 replace hi1010 : a0 ≠ (9 : Int) := (bEqF hi1010)
 refine iteR (p := fun r : TSpan => IU64 r.Lo ∧ IU64 r.Hi) (fun hi1011 => ?_) (fun hi1011 => ?_)
 ·
  replace hi1011 : a0 = (10 : Int) := (bEqT hi1011)
  refine letR (p := fun r : TSpan => IU64 r.Lo ∧ IU64 r.Hi) fun x305 hx306 => ?_
  have hx307 : IU64 x305.Lo ∧ IU64 x305.Hi := by rw [← hx306]; exact span_work_shr_ok x104 ⟨(by omega), (by omega), (by omega), (by omega), (by omega), (by omega)⟩ (by omega)
  exact (by exact (show IU64 x305.Lo ∧ IU64 x305.Hi from ⟨(by omega), (by omega)⟩))
 replace hi1011 : a0 ≠ (10 : Int) := (bEqF hi1011)
 refine iteR (p := fun r : TSpan => IU64 r.Lo ∧ IU64 r.Hi) (fun hi1012 => ?_) (fun hi1012 => ?_)
 ·
  replace hi1012 : a0 = (11 : Int) := (bEqT hi1012)
  refine optR (p := fun r : TSpan => IU64 r.Lo ∧ IU64 r.Hi) (fun _ => ?_) (fun x323 hx324 => ?_)
  ·
   exact (by have : IU64 (span_All a1).Lo ∧ IU64 (span_All a1).Hi := span_All_ok a1 ; exact (show IU64 (span_All a1).Lo ∧ IU64 (span_All a1).Hi from ⟨(by omega), (by omega)⟩))
  have hx325 : IU64 x323.Lo ∧ IU64 x323.Hi := by exact span_work_sar_ok x104 ⟨(by omega), (by omega), (by omega), (by omega), (by omega), (by omega)⟩  _ hx324
  exact (by exact (show IU64 x323.Lo ∧ IU64 x323.Hi from ⟨(by omega), (by omega)⟩))
 replace hi1012 : a0 ≠ (11 : Int) := (bEqF hi1012)
 refine iteR (p := fun r : TSpan => IU64 r.Lo ∧ IU64 r.Hi) (fun hi1013 => ?_) (fun hi1013 => ?_)
 ·
  replace hi1013 : a0 = (12 : Int) := (bEqT hi1013)
  refine letR (p := fun r : TSpan => IU64 r.Lo ∧ IU64 r.Hi) fun x348 hx349 => ?_
  have hx350 : IU64 x348.Lo ∧ IU64 x348.Hi := by rw [← hx349]; exact span_work_mov_ok x104 ⟨(by omega), (by omega), (by omega), (by omega), (by omega), (by omega)⟩ 
  exact (by exact (show IU64 x348.Lo ∧ IU64 x348.Hi from ⟨(by omega), (by omega)⟩))
 replace hi1013 : a0 ≠ (12 : Int) := (bEqF hi1013)
 refine iteR (p := fun r : TSpan => IU64 r.Lo ∧ IU64 r.Hi) (fun hi1014 => ?_) (fun hi1014 => ?_)
 ·
  replace hi1014 : a0 = (13 : Int) := (bEqT hi1014)
  refine optR (p := fun r : TSpan => IU64 r.Lo ∧ IU64 r.Hi) (fun _ => ?_) (fun x366 hx367 => ?_)
  ·
   exact (by have : IU64 (span_All a1).Lo ∧ IU64 (span_All a1).Hi := span_All_ok a1 ; exact (show IU64 (span_All a1).Lo ∧ IU64 (span_All a1).Hi from ⟨(by omega), (by omega)⟩))
  have hx368 : IU64 x366.Lo ∧ IU64 x366.Hi := by exact span_work_neg_ok x104 ⟨(by omega), (by omega), (by omega), (by omega), (by omega), (by omega)⟩  _ hx367
  exact (by exact (show IU64 x366.Lo ∧ IU64 x366.Hi from ⟨(by omega), (by omega)⟩))
 replace hi1014 : a0 ≠ (13 : Int) := (bEqF hi1014)
 exact by decide

set_option maxRecDepth 100000 in
set_option maxHeartbeats 4000000 in
theorem span_Do_any (a0 : Int) (a1 : Bool) (a2 : TSpan) (a3 : TSpan)   (w : World)  (_h_a0 : IU8 a0) (_h_a2 : IU64 a2.Lo ∧ IU64 a2.Hi) (_h_a3 : IU64 a3.Lo ∧ IU64 a3.Hi)  : Calls Try.prog 19 #[.int .u8 a0, .bool a1, .agg #[.int .u64 a2.Lo, .int .u64 a2.Hi], .agg #[.int .u64 a3.Lo, .int .u64 a3.Hi]] w (RetV w (TSpan.v (span_Do a0 a1 a2 a3))) := by
 have hs := span_Do.eq_1 a0 a1 a2 a3
 refine calls_of_CW_defers Try.func19 rfl (n := 38) Try.ntmps19 (by kernel_rfl) [0, 1, 2, 3] (F := [(0, .int .u8 a0), (1, .bool a1), (2, .agg #[.int .u64 a2.Lo, .int .u64 a2.Hi]), (3, .agg #[.int .u64 a3.Lo, .int .u64 a3.Hi])]) (by kernel_rfl) ?_
 refine CW.seq fun K1 hK1 => ?_
 refine CW.region ?_
 refine WR.box (dst := some 5) (e := 4) (v := .bool a1) (by kernel_rfl) #[.bool a1] (by kernel_rfl) ?_
 intro g2 w3 hN4
 have hf6 : w.heap.size ≤ g2 := hN4.fresh
 have hfr8 := hN4.fresh
 have hc7 := hN4.chg
 have hz10 := hc7.size
 have hC9 := (Chg.refl [] w).pure hc7
 have hb5 := hN4.blk
 have hg11 := hb5.lt
 refine WR.box (dst := some 6) (e := 25) (v := .agg #[.int .u64 a2.Lo, .int .u64 a2.Hi]) (by kernel_rfl) #[.int .u64 a2.Lo, .int .u64 a2.Hi] (by kernel_rfl) ?_
 intro g12 w13 hN14
 have hf16 : w.heap.size ≤ g12 := Nat.le_trans hC9.size hN14.fresh
 have hfr18 := hN14.fresh
 have hc17 := hN14.chg
 have hz20 := hc17.size
 have hC19 := hC9.pure hc17
 have hb15 := hN14.blk
 have hg21 := hb15.lt
 refine WR.box (dst := some 7) (e := 25) (v := .agg #[.int .u64 a3.Lo, .int .u64 a3.Hi]) (by kernel_rfl) #[.int .u64 a3.Lo, .int .u64 a3.Hi] (by kernel_rfl) ?_
 intro g22 w23 hN24
 have hf26 : w.heap.size ≤ g22 := Nat.le_trans hC19.size hN24.fresh
 have hfr28 := hN24.fresh
 have hc27 := hN24.chg
 have hz30 := hc27.size
 have hC29 := hC19.pure hc27
 have hb25 := hN24.blk
 have hg31 := hb25.lt
 refine WR.alloc (dst := some 8) (e := 25) (by kernel_rfl) #[.int .u64 0, .int .u64 0] (by kernel_rfl) ?_
 intro g32 w33 hN34
 have hf36 : w.heap.size ≤ g32 := Nat.le_trans hC29.size hN34.fresh
 have hfr38 := hN34.fresh
 have hc37 := hN34.chg
 have hz40 := hc37.size
 have hC39 := hC29.pure hc37
 have hb35 := hN34.blk
 have hg41 := hb35.lt
 refine WR.fin (by kernel_rfl) ?_
 refine go hK1 ?_
 refine CW.seq fun K42 hK42 => ?_
 refine CW.region ?_
 refine WR.call (dst := some 12) (by kernel_rfl) (span_rules_any w33) ?_
 rintro _ w46 hc47 ⟨g43, rfl, hb44, hf45⟩
 have hz49 := hc47.size
 have hC48 := hC39.pure hc47
 have hg50 := hb44.lt
 refine WR.batch 1 [(5, pt g2 0), (6, pt g12 0), (7, pt g22 0), (8, pt g32 0), (12, .map (some g43)), (13, .int .u8 a0)] (by kernel_rfl) ?_
 obtain ⟨hr51r, hr511, hr512⟩ := rule0_look a0
 refine WR.valR (dst := some 14) (v := .tuple #[(rule0_f a0), .bool (rule0_is a0)]) (w' := w46) (run_lookup (t := 73) (co := true) (kt := 22) (et := 71) (d := .int .u8) (x := .int .u8 a0) (z := .nilFunc) hb44 (by kernel_rfl) (by kernel_rfl) rfl hr51r hr511 (by kernel_rfl) _ hr512) ?_
 refine WR.batch 5 [(5, pt g2 0), (6, pt g12 0), (7, pt g22 0), (8, pt g32 0), (9, (rule0_f a0)), (10, .bool (rule0_is a0))] (by kernel_rfl) ?_
 refine WR.fin (by kernel_rfl) ?_
 refine go hK42 ?_
 refine CW.seq fun K52 hK52 => ?_
 refine CW.seq fun K53 hK53 => ?_
 refine CW.region ?_
 refine WR.batch 3 [(5, pt g2 0), (6, pt g12 0), (7, pt g22 0), (8, pt g32 0), (9, (rule0_f a0)), (19, .bool (!(rule0_is a0)))] (by kernel_rfl) ?_
 refine WR.mergeW 7 [(5, pt g2 0), (6, pt g12 0), (7, pt g22 0), (8, pt g32 0), (9, (rule0_f a0)), (23, .bool ((!(rule0_is a0)) || (!(span_Right a2))))] (fun w' => Chg [] w46 w') (fun Q' => ?_) ?_
 ·
  cases hg54 : (!(rule0_is a0))
  ·
   have hk56 := hg54
   replace hg54 : (rule0_is a0) = true := (bNotF hg54)
   intro hM55
   have hb57 := ((hb15.pure hc27).pure hc37).pure hc47
   refine WR.load (dst := some 20) (t := 25) (o := 0) hb57 (by kernel_rfl) (.agg #[.int .u64 a2.Lo, .int .u64 a2.Hi]) (by kernel_rfl) ?_
   refine WR.call (dst := some 21) (by kernel_rfl) (span_Right_any a2 w46  ⟨(by omega), (by omega)⟩ ) ?_
   rintro _ w58 hc59 rfl
   have hz61 := hc59.size
   have hC60 := hC48.pure hc59
   refine WR.batch 2 [(5, pt g2 0), (6, pt g12 0), (7, pt g22 0), (8, pt g32 0), (9, (rule0_f a0)), (23, .bool (!(span_Right a2)))] (by kernel_rfl) ?_
   exact WR.keep [5, 6, 7, 8, 9, 23] (by kernel_rfl) (hM55 _ ((Chg.refl [] w46).pure hc59))
  ·
   have hk62 := hg54
   replace hg54 : (rule0_is a0) = false := (bNotT hg54)
   intro hM55
   refine WR.batch 4 [(5, pt g2 0), (6, pt g12 0), (7, pt g22 0), (8, pt g32 0), (9, (rule0_f a0)), (23, .bool true)] (by kernel_rfl) ?_
   exact WR.keep [5, 6, 7, 8, 9, 23] (by kernel_rfl) (hM55 _ (Chg.refl [] w46))
 intro w63 hc64
 have hz66 := hc64.size
 have hC65 := hC48.pure hc64
 refine WR.batch 1 [(5, pt g2 0), (6, pt g12 0), (7, pt g22 0), (8, pt g32 0), (9, (rule0_f a0)), (24, .bool ((!(rule0_is a0)) || (!(span_Right a2))))] (by kernel_rfl) ?_
 refine WR.mergeW 12 [(5, pt g2 0), (6, pt g12 0), (7, pt g22 0), (8, pt g32 0), (9, (rule0_f a0)), (28, .bool (((!(rule0_is a0)) || (!(span_Right a2))) || (!(span_Right a3))))] (fun w' => Chg [] w63 w') (fun Q' => ?_) ?_
 ·
  cases hg67 : ((!(rule0_is a0)) || (!(span_Right a2)))
  ·
   have hk69 := hg67
   replace hg67 : ((rule0_is a0) = true) ∧ ((span_Right a2) = true) := ⟨(bNotF (bOrF hg67).1), (bNotF (bOrF hg67).2)⟩
   intro hM68
   have hb70 := ((hb25.pure hc37).pure hc47).pure hc64
   refine WR.load (dst := some 25) (t := 25) (o := 0) hb70 (by kernel_rfl) (.agg #[.int .u64 a3.Lo, .int .u64 a3.Hi]) (by kernel_rfl) ?_
   refine WR.call (dst := some 26) (by kernel_rfl) (span_Right_any a3 w63  ⟨(by omega), (by omega)⟩ ) ?_
   rintro _ w71 hc72 rfl
   have hz74 := hc72.size
   have hC73 := hC65.pure hc72
   refine WR.batch 2 [(5, pt g2 0), (6, pt g12 0), (7, pt g22 0), (8, pt g32 0), (9, (rule0_f a0)), (28, .bool (!(span_Right a3)))] (by kernel_rfl) ?_
   exact WR.keep [5, 6, 7, 8, 9, 28] (by kernel_rfl) (hM68 _ ((Chg.refl [] w63).pure hc72))
  ·
   have hk75 := hg67
   replace hg67 : ((rule0_is a0) = false) ∨ ((span_Right a2) = false) := (orMap (bOrT hg67) (fun h => (bNotT h)) (fun h => (bNotT h)))
   intro hM68
   refine WR.batch 4 [(5, pt g2 0), (6, pt g12 0), (7, pt g22 0), (8, pt g32 0), (9, (rule0_f a0)), (28, .bool true)] (by kernel_rfl) ?_
   exact WR.keep [5, 6, 7, 8, 9, 28] (by kernel_rfl) (hM68 _ (Chg.refl [] w63))
 intro w76 hc77
 have hz79 := hc77.size
 have hC78 := hC65.pure hc77
 refine WR.fin (by kernel_rfl) ?_
 refine go hK53 ?_
 refine CW.cond ((((!(rule0_is a0)) || (!(span_Right a2))) || (!(span_Right a3)))) (by kernel_rfl) (fun ht80 => ?_) (fun ht80 => ?_)
 ·
  have hs81 := ifT ht80 hs
  replace ht80 : (((rule0_is a0) = false) ∨ ((span_Right a2) = false)) ∨ ((span_Right a3) = false) := (orMap (bOrT ht80) (fun h => (orMap (bOrT h) (fun h => (bNotT h)) (fun h => (bNotT h)))) (fun h => (bNotT h)))
  refine CW.seq fun K82 hK82 => ?_
  refine CW.region ?_
  have hb83 := (((((hb5.pure hc17).pure hc27).pure hc37).pure hc47).pure hc64).pure hc77
  refine WR.load (dst := some 29) (t := 4) (o := 0) hb83 (by kernel_rfl) (.bool a1) (by kernel_rfl) ?_
  obtain ⟨x84, hx85⟩ : ∃ x, span_All a1 = x := ⟨_, rfl⟩
  have hs87 := letS hx85 hs81
  have hx86 : IU64 x84.Lo ∧ IU64 x84.Hi := by rw [← hx85]; exact span_All_ok a1 
  refine WR.call (dst := some 30) (by kernel_rfl) (retE (g := TSpan.v) hx85 (span_All_any a1 w76  )) ?_
  rintro _ w88 hc89 rfl
  have hz91 := hc89.size
  have hC90 := hC78.pure hc89
  have hb95 := (((hb35.pure hc47).pure hc64).pure hc77).pure hc89
  refine WR.store (t := 25) (o := 0) (v := .agg #[.int .u64 x84.Lo, .int .u64 x84.Hi]) hb95 (by kernel_rfl) #[.int .u64 x84.Lo, .int .u64 x84.Hi] (by kernel_rfl) ?_
  intro w92 hb93 hc94
  have hz97 := hc94.size
  have hC96 := hC90.step1 hc94 (by omega)
  refine WR.fin (by kernel_rfl) ?_
  refine go hK82 ?_
  refine CW.ret ?_
  exact retCD [.agg #[.int .u64 x84.Lo, .int .u64 x84.Hi]] _ rfl ⟨resCell hb93 rfl (by kernel_rfl), trivial⟩ (⟨hC96, (congrArg TSpan.v hs87).symm⟩)
 have hs98 := ifF ht80 hs
 replace ht80 : (((rule0_is a0) = true) ∧ ((span_Right a2) = true)) ∧ ((span_Right a3) = true) := ⟨⟨(bNotF (bOrF (bOrF ht80).1).1), (bNotF (bOrF (bOrF ht80).1).2)⟩, (bNotF (bOrF ht80).2)⟩
 refine CW.skip ?_
 refine go hK52 ?_
 refine CW.seq fun K99 hK99 => ?_
 refine CW.region ?_
 refine WR.batch 1 [(5, pt g2 0), (6, pt g12 0), (7, pt g22 0), (8, pt g32 0), (9, (rule0_f a0)), (31, .func (.func 54) #[] #[pt g2 0, pt g32 0])] (by kernel_rfl) ?_
 refine WR.defer (dst := none) (d := { target := .fn (.func 54) #[pt g2 0, pt g32 0], args := #[] }) (by kernel_rfl) ?_
 refine WR.fin (by kernel_rfl) ?_
 refine go hK99 ?_
 refine CW.seq fun K100 hK100 => ?_
 refine CW.region ?_
 refine WR.batch 1 [(5, pt g2 0), (6, pt g12 0), (7, pt g22 0), (8, pt g32 0), (32, (rule0_f a0))] (by kernel_rfl) ?_
 have hb101 := (((((hb5.pure hc17).pure hc27).pure hc37).pure hc47).pure hc64).pure hc77
 refine WR.load (dst := some 33) (t := 4) (o := 0) hb101 (by kernel_rfl) (.bool a1) (by kernel_rfl) ?_
 have hb102 := ((((hb15.pure hc27).pure hc37).pure hc47).pure hc64).pure hc77
 refine WR.load (dst := some 34) (t := 25) (o := 0) hb102 (by kernel_rfl) (.agg #[.int .u64 a2.Lo, .int .u64 a2.Hi]) (by kernel_rfl) ?_
 have hb103 := (((hb25.pure hc37).pure hc47).pure hc64).pure hc77
 refine WR.load (dst := some 35) (t := 25) (o := 0) hb103 (by kernel_rfl) (.agg #[.int .u64 a3.Lo, .int .u64 a3.Hi]) (by kernel_rfl) ?_
 obtain ⟨x104, hx105⟩ : ∃ x, span_over a1 a2 a3 = x := ⟨_, rfl⟩
 have hs107 := letS hx105 hs98
 have hxx104_ : x104.size = 32 ∨ x104.size = 64 := by rw [← hx105]; exact span_over_size _ _ _
 have hx106 : IU64 x104.a.Lo ∧ IU64 x104.a.Hi ∧ IU64 x104.b.Lo ∧ IU64 x104.b.Hi ∧ IU64 x104.most ∧ IU64 x104.size := by rw [← hx105]; exact span_over_ok a1 a2 a3 ⟨(by omega), (by omega)⟩ ⟨(by omega), (by omega)⟩ 
 refine WR.call (dst := some 36) (by kernel_rfl) (retE (g := Twork.v) hx105 (span_over_any a1 a2 a3 w76  ⟨(by omega), (by omega)⟩ ⟨(by omega), (by omega)⟩ )) ?_
 rintro _ w108 hc109 rfl
 have hz111 := hc109.size
 have hC110 := hC78.pure hc109
 refine WR.keep [5, 6, 7, 8, 32, 33, 34, 35, 36] (F' := [(5, pt g2 0), (6, pt g12 0), (7, pt g22 0), (8, pt g32 0), (32, (rule0_f a0)), (33, .bool a1), (34, .agg #[.int .u64 a2.Lo, .int .u64 a2.Hi]), (35, .agg #[.int .u64 a3.Lo, .int .u64 a3.Hi]), (36, .agg #[.int .u64 x104.a.Lo, .int .u64 x104.a.Hi, .int .u64 x104.b.Lo, .int .u64 x104.b.Hi, .bool x104.narrow, .int .u64 x104.most, .int .u64 x104.size])]) (by kernel_rfl) ?_
 rcases Bool.eq_false_or_eq_true (a0 == (1 : Int)) with hq112 | hq112
 ·
  have hs114 := ifT hq112 hs107
  replace hq112 := bEqT hq112
  have hf113 : (rule0_f a0) = .func (.func 76) #[] #[] := by rw [hq112]; rfl
  refine WR.eqF (F' := [(5, pt g2 0), (6, pt g12 0), (7, pt g22 0), (8, pt g32 0), (32, .func (.func 76) #[] #[]), (33, .bool a1), (34, .agg #[.int .u64 a2.Lo, .int .u64 a2.Hi]), (35, .agg #[.int .u64 a3.Lo, .int .u64 a3.Hi]), (36, .agg #[.int .u64 x104.a.Lo, .int .u64 x104.a.Hi, .int .u64 x104.b.Lo, .int .u64 x104.b.Hi, .bool x104.narrow, .int .u64 x104.most, .int .u64 x104.size])]) (by rw [hf113]) ?_
  rcases hx116 : span_work_add x104 with _ | x115
  ·
   have hs120 := optN hx116 hs114
   refine WR.callX (dst := some 37) (by kernel_rfl) (retP_no (g := TSpan.v) hx116 (span_work_add_any x104 w108  ⟨(by omega), (by omega), (by omega), (by omega), (by omega), (by omega)⟩ )) ?_
   intro w118 hc119
   have hz122 := hc119.size
   have hC121 := hC110.pure hc119
   have hb123 := (hb101.pure hc109).pure hc119
   have hb124 := ((((hb35.pure hc47).pure hc64).pure hc77).pure hc109).pure hc119
   exact panicD (P := Try.prog) (fn := Try.f19) (d := { target := .fn (.func 54) #[pt g2 0, pt g32 0], args := #[] }) (fv := .func 54) (cap := #[pt g2 0, pt g32 0]) (f := 54) (args := #[pt g2 0, pt g32 0]) (M := fun w1 => Chg [g32] w118 w1 ∧ Blk w1 g2 #[.bool a1] 4 ∧ Blk w1 g32 #[.int .u64 (span_All a1).Lo, .int .u64 (span_All a1).Hi] 25) (x := .iface 76 (.agg #[])) rfl (by kernel_rfl) (span_Do_1_pan a1 (⟨(0 : Int), (0 : Int)⟩ : TSpan) g2 g32 w118 hb123 hb124 (by omega)) (fun _ => [.agg #[.int .u64 (span_All a1).Lo, .int .u64 (span_All a1).Hi]]) (fun w1 hM => ⟨resCell hM.2.2 rfl (by kernel_rfl), trivial⟩) (fun w1 hM => ⟨hC121.step hM.1 (by intro t ht; simp only [List.mem_cons, List.not_mem_nil, or_false] at ht; subst ht; first | exact .inr (by omega) | exact .inl (by simp)), (congrArg TSpan.v hs120).symm⟩)
  have hs125 := optS hx116 hs114
  have hx117 : IU64 x115.Lo ∧ IU64 x115.Hi := by exact span_work_add_ok x104 ⟨(by omega), (by omega), (by omega), (by omega), (by omega), (by omega)⟩  _ hx116
  refine WR.call (dst := some 37) (by kernel_rfl) (retP_yes (g := TSpan.v) hx116 (span_work_add_any x104 w108  ⟨(by omega), (by omega), (by omega), (by omega), (by omega), (by omega)⟩ )) ?_
  rintro _ w126 hc127 rfl
  have hz129 := hc127.size
  have hC128 := hC110.pure hc127
  have hb133 := ((((hb35.pure hc47).pure hc64).pure hc77).pure hc109).pure hc127
  refine WR.store (t := 25) (o := 0) (v := .agg #[.int .u64 x115.Lo, .int .u64 x115.Hi]) hb133 (by kernel_rfl) #[.int .u64 x115.Lo, .int .u64 x115.Hi] (by kernel_rfl) ?_
  intro w130 hb131 hc132
  have hz135 := hc132.size
  have hC134 := hC128.step1 hc132 (by omega)
  refine WR.fin (by kernel_rfl) ?_
  refine go hK100 ?_
  refine CW.ret ?_
  exact retD (P := Try.prog) (fn := Try.f19) (d := { target := .fn (.func 54) #[pt g2 0, pt g32 0], args := #[] }) (fv := .func 54) (cap := #[pt g2 0, pt g32 0]) (f := 54) (args := #[pt g2 0, pt g32 0]) (M := fun w1 => Chg [] w130 w1) rfl (by kernel_rfl) (span_Do_1_ret g2 g32 w130) (fun _ => [.agg #[.int .u64 x115.Lo, .int .u64 x115.Hi]]) (fun w1 hM => ⟨resCell (hb131.pure hM) rfl (by kernel_rfl), trivial⟩) (fun w1 hM => ⟨(hC134.pure hM), (congrArg TSpan.v hs125).symm⟩)
 have hs136 := ifF hq112 hs107
 rcases Bool.eq_false_or_eq_true (a0 == (2 : Int)) with hq137 | hq137
 ·
  have hs139 := ifT hq137 hs136
  replace hq137 := bEqT hq137
  have hf138 : (rule0_f a0) = .func (.func 77) #[] #[] := by rw [hq137]; rfl
  refine WR.eqF (F' := [(5, pt g2 0), (6, pt g12 0), (7, pt g22 0), (8, pt g32 0), (32, .func (.func 77) #[] #[]), (33, .bool a1), (34, .agg #[.int .u64 a2.Lo, .int .u64 a2.Hi]), (35, .agg #[.int .u64 a3.Lo, .int .u64 a3.Hi]), (36, .agg #[.int .u64 x104.a.Lo, .int .u64 x104.a.Hi, .int .u64 x104.b.Lo, .int .u64 x104.b.Hi, .bool x104.narrow, .int .u64 x104.most, .int .u64 x104.size])]) (by rw [hf138]) ?_
  rcases hx141 : span_work_sub x104 with _ | x140
  ·
   have hs145 := optN hx141 hs139
   refine WR.callX (dst := some 37) (by kernel_rfl) (retP_no (g := TSpan.v) hx141 (span_work_sub_any x104 w108  ⟨(by omega), (by omega), (by omega), (by omega), (by omega), (by omega)⟩ )) ?_
   intro w143 hc144
   have hz147 := hc144.size
   have hC146 := hC110.pure hc144
   have hb148 := (hb101.pure hc109).pure hc144
   have hb149 := ((((hb35.pure hc47).pure hc64).pure hc77).pure hc109).pure hc144
   exact panicD (P := Try.prog) (fn := Try.f19) (d := { target := .fn (.func 54) #[pt g2 0, pt g32 0], args := #[] }) (fv := .func 54) (cap := #[pt g2 0, pt g32 0]) (f := 54) (args := #[pt g2 0, pt g32 0]) (M := fun w1 => Chg [g32] w143 w1 ∧ Blk w1 g2 #[.bool a1] 4 ∧ Blk w1 g32 #[.int .u64 (span_All a1).Lo, .int .u64 (span_All a1).Hi] 25) (x := .iface 76 (.agg #[])) rfl (by kernel_rfl) (span_Do_1_pan a1 (⟨(0 : Int), (0 : Int)⟩ : TSpan) g2 g32 w143 hb148 hb149 (by omega)) (fun _ => [.agg #[.int .u64 (span_All a1).Lo, .int .u64 (span_All a1).Hi]]) (fun w1 hM => ⟨resCell hM.2.2 rfl (by kernel_rfl), trivial⟩) (fun w1 hM => ⟨hC146.step hM.1 (by intro t ht; simp only [List.mem_cons, List.not_mem_nil, or_false] at ht; subst ht; first | exact .inr (by omega) | exact .inl (by simp)), (congrArg TSpan.v hs145).symm⟩)
  have hs150 := optS hx141 hs139
  have hx142 : IU64 x140.Lo ∧ IU64 x140.Hi := by exact span_work_sub_ok x104 ⟨(by omega), (by omega), (by omega), (by omega), (by omega), (by omega)⟩  _ hx141
  refine WR.call (dst := some 37) (by kernel_rfl) (retP_yes (g := TSpan.v) hx141 (span_work_sub_any x104 w108  ⟨(by omega), (by omega), (by omega), (by omega), (by omega), (by omega)⟩ )) ?_
  rintro _ w151 hc152 rfl
  have hz154 := hc152.size
  have hC153 := hC110.pure hc152
  have hb158 := ((((hb35.pure hc47).pure hc64).pure hc77).pure hc109).pure hc152
  refine WR.store (t := 25) (o := 0) (v := .agg #[.int .u64 x140.Lo, .int .u64 x140.Hi]) hb158 (by kernel_rfl) #[.int .u64 x140.Lo, .int .u64 x140.Hi] (by kernel_rfl) ?_
  intro w155 hb156 hc157
  have hz160 := hc157.size
  have hC159 := hC153.step1 hc157 (by omega)
  refine WR.fin (by kernel_rfl) ?_
  refine go hK100 ?_
  refine CW.ret ?_
  exact retD (P := Try.prog) (fn := Try.f19) (d := { target := .fn (.func 54) #[pt g2 0, pt g32 0], args := #[] }) (fv := .func 54) (cap := #[pt g2 0, pt g32 0]) (f := 54) (args := #[pt g2 0, pt g32 0]) (M := fun w1 => Chg [] w155 w1) rfl (by kernel_rfl) (span_Do_1_ret g2 g32 w155) (fun _ => [.agg #[.int .u64 x140.Lo, .int .u64 x140.Hi]]) (fun w1 hM => ⟨resCell (hb156.pure hM) rfl (by kernel_rfl), trivial⟩) (fun w1 hM => ⟨(hC159.pure hM), (congrArg TSpan.v hs150).symm⟩)
 have hs161 := ifF hq137 hs136
 rcases Bool.eq_false_or_eq_true (a0 == (3 : Int)) with hq162 | hq162
 ·
  have hs164 := ifT hq162 hs161
  replace hq162 := bEqT hq162
  have hf163 : (rule0_f a0) = .func (.func 78) #[] #[] := by rw [hq162]; rfl
  refine WR.eqF (F' := [(5, pt g2 0), (6, pt g12 0), (7, pt g22 0), (8, pt g32 0), (32, .func (.func 78) #[] #[]), (33, .bool a1), (34, .agg #[.int .u64 a2.Lo, .int .u64 a2.Hi]), (35, .agg #[.int .u64 a3.Lo, .int .u64 a3.Hi]), (36, .agg #[.int .u64 x104.a.Lo, .int .u64 x104.a.Hi, .int .u64 x104.b.Lo, .int .u64 x104.b.Hi, .bool x104.narrow, .int .u64 x104.most, .int .u64 x104.size])]) (by rw [hf163]) ?_
  rcases hx166 : span_work_mul x104 with _ | x165
  ·
   have hs170 := optN hx166 hs164
   refine WR.callX (dst := some 37) (by kernel_rfl) (retP_no (g := TSpan.v) hx166 (span_work_mul_any x104 w108  ⟨(by omega), (by omega), (by omega), (by omega), (by omega), (by omega)⟩ )) ?_
   intro w168 hc169
   have hz172 := hc169.size
   have hC171 := hC110.pure hc169
   have hb173 := (hb101.pure hc109).pure hc169
   have hb174 := ((((hb35.pure hc47).pure hc64).pure hc77).pure hc109).pure hc169
   exact panicD (P := Try.prog) (fn := Try.f19) (d := { target := .fn (.func 54) #[pt g2 0, pt g32 0], args := #[] }) (fv := .func 54) (cap := #[pt g2 0, pt g32 0]) (f := 54) (args := #[pt g2 0, pt g32 0]) (M := fun w1 => Chg [g32] w168 w1 ∧ Blk w1 g2 #[.bool a1] 4 ∧ Blk w1 g32 #[.int .u64 (span_All a1).Lo, .int .u64 (span_All a1).Hi] 25) (x := .iface 76 (.agg #[])) rfl (by kernel_rfl) (span_Do_1_pan a1 (⟨(0 : Int), (0 : Int)⟩ : TSpan) g2 g32 w168 hb173 hb174 (by omega)) (fun _ => [.agg #[.int .u64 (span_All a1).Lo, .int .u64 (span_All a1).Hi]]) (fun w1 hM => ⟨resCell hM.2.2 rfl (by kernel_rfl), trivial⟩) (fun w1 hM => ⟨hC171.step hM.1 (by intro t ht; simp only [List.mem_cons, List.not_mem_nil, or_false] at ht; subst ht; first | exact .inr (by omega) | exact .inl (by simp)), (congrArg TSpan.v hs170).symm⟩)
  have hs175 := optS hx166 hs164
  have hx167 : IU64 x165.Lo ∧ IU64 x165.Hi := by exact span_work_mul_ok x104 ⟨(by omega), (by omega), (by omega), (by omega), (by omega), (by omega)⟩  _ hx166
  refine WR.call (dst := some 37) (by kernel_rfl) (retP_yes (g := TSpan.v) hx166 (span_work_mul_any x104 w108  ⟨(by omega), (by omega), (by omega), (by omega), (by omega), (by omega)⟩ )) ?_
  rintro _ w176 hc177 rfl
  have hz179 := hc177.size
  have hC178 := hC110.pure hc177
  have hb183 := ((((hb35.pure hc47).pure hc64).pure hc77).pure hc109).pure hc177
  refine WR.store (t := 25) (o := 0) (v := .agg #[.int .u64 x165.Lo, .int .u64 x165.Hi]) hb183 (by kernel_rfl) #[.int .u64 x165.Lo, .int .u64 x165.Hi] (by kernel_rfl) ?_
  intro w180 hb181 hc182
  have hz185 := hc182.size
  have hC184 := hC178.step1 hc182 (by omega)
  refine WR.fin (by kernel_rfl) ?_
  refine go hK100 ?_
  refine CW.ret ?_
  exact retD (P := Try.prog) (fn := Try.f19) (d := { target := .fn (.func 54) #[pt g2 0, pt g32 0], args := #[] }) (fv := .func 54) (cap := #[pt g2 0, pt g32 0]) (f := 54) (args := #[pt g2 0, pt g32 0]) (M := fun w1 => Chg [] w180 w1) rfl (by kernel_rfl) (span_Do_1_ret g2 g32 w180) (fun _ => [.agg #[.int .u64 x165.Lo, .int .u64 x165.Hi]]) (fun w1 hM => ⟨resCell (hb181.pure hM) rfl (by kernel_rfl), trivial⟩) (fun w1 hM => ⟨(hC184.pure hM), (congrArg TSpan.v hs175).symm⟩)
 have hs186 := ifF hq162 hs161
 rcases Bool.eq_false_or_eq_true (a0 == (4 : Int)) with hq187 | hq187
 ·
  have hs189 := ifT hq187 hs186
  replace hq187 := bEqT hq187
  have hf188 : (rule0_f a0) = .func (.func 79) #[] #[] := by rw [hq187]; rfl
  refine WR.eqF (F' := [(5, pt g2 0), (6, pt g12 0), (7, pt g22 0), (8, pt g32 0), (32, .func (.func 79) #[] #[]), (33, .bool a1), (34, .agg #[.int .u64 a2.Lo, .int .u64 a2.Hi]), (35, .agg #[.int .u64 a3.Lo, .int .u64 a3.Hi]), (36, .agg #[.int .u64 x104.a.Lo, .int .u64 x104.a.Hi, .int .u64 x104.b.Lo, .int .u64 x104.b.Hi, .bool x104.narrow, .int .u64 x104.most, .int .u64 x104.size])]) (by rw [hf188]) ?_
  obtain ⟨x190, hx191⟩ : ∃ x, span_work_div x104 = x := ⟨_, rfl⟩
  have hs193 := letS hx191 hs189
  have hx192 : IU64 x190.Lo ∧ IU64 x190.Hi := by rw [← hx191]; exact span_work_div_ok x104 ⟨(by omega), (by omega), (by omega), (by omega), (by omega), (by omega)⟩ 
  refine WR.call (dst := some 37) (by kernel_rfl) (retE (g := TSpan.v) hx191 (span_work_div_any x104 w108  ⟨(by omega), (by omega), (by omega), (by omega), (by omega), (by omega)⟩ )) ?_
  rintro _ w194 hc195 rfl
  have hz197 := hc195.size
  have hC196 := hC110.pure hc195
  have hb201 := ((((hb35.pure hc47).pure hc64).pure hc77).pure hc109).pure hc195
  refine WR.store (t := 25) (o := 0) (v := .agg #[.int .u64 x190.Lo, .int .u64 x190.Hi]) hb201 (by kernel_rfl) #[.int .u64 x190.Lo, .int .u64 x190.Hi] (by kernel_rfl) ?_
  intro w198 hb199 hc200
  have hz203 := hc200.size
  have hC202 := hC196.step1 hc200 (by omega)
  refine WR.fin (by kernel_rfl) ?_
  refine go hK100 ?_
  refine CW.ret ?_
  exact retD (P := Try.prog) (fn := Try.f19) (d := { target := .fn (.func 54) #[pt g2 0, pt g32 0], args := #[] }) (fv := .func 54) (cap := #[pt g2 0, pt g32 0]) (f := 54) (args := #[pt g2 0, pt g32 0]) (M := fun w1 => Chg [] w198 w1) rfl (by kernel_rfl) (span_Do_1_ret g2 g32 w198) (fun _ => [.agg #[.int .u64 x190.Lo, .int .u64 x190.Hi]]) (fun w1 hM => ⟨resCell (hb199.pure hM) rfl (by kernel_rfl), trivial⟩) (fun w1 hM => ⟨(hC202.pure hM), (congrArg TSpan.v hs193).symm⟩)
 have hs204 := ifF hq187 hs186
 rcases Bool.eq_false_or_eq_true (a0 == (5 : Int)) with hq205 | hq205
 ·
  have hs207 := ifT hq205 hs204
  replace hq205 := bEqT hq205
  have hf206 : (rule0_f a0) = .func (.func 80) #[] #[] := by rw [hq205]; rfl
  refine WR.eqF (F' := [(5, pt g2 0), (6, pt g12 0), (7, pt g22 0), (8, pt g32 0), (32, .func (.func 80) #[] #[]), (33, .bool a1), (34, .agg #[.int .u64 a2.Lo, .int .u64 a2.Hi]), (35, .agg #[.int .u64 a3.Lo, .int .u64 a3.Hi]), (36, .agg #[.int .u64 x104.a.Lo, .int .u64 x104.a.Hi, .int .u64 x104.b.Lo, .int .u64 x104.b.Hi, .bool x104.narrow, .int .u64 x104.most, .int .u64 x104.size])]) (by rw [hf206]) ?_
  obtain ⟨x208, hx209⟩ : ∃ x, span_work_mod x104 = x := ⟨_, rfl⟩
  have hs211 := letS hx209 hs207
  have hx210 : IU64 x208.Lo ∧ IU64 x208.Hi := by rw [← hx209]; exact span_work_mod_ok x104 ⟨(by omega), (by omega), (by omega), (by omega), (by omega), (by omega)⟩ 
  refine WR.call (dst := some 37) (by kernel_rfl) (retE (g := TSpan.v) hx209 (span_work_mod_any x104 w108  ⟨(by omega), (by omega), (by omega), (by omega), (by omega), (by omega)⟩ )) ?_
  rintro _ w212 hc213 rfl
  have hz215 := hc213.size
  have hC214 := hC110.pure hc213
  have hb219 := ((((hb35.pure hc47).pure hc64).pure hc77).pure hc109).pure hc213
  refine WR.store (t := 25) (o := 0) (v := .agg #[.int .u64 x208.Lo, .int .u64 x208.Hi]) hb219 (by kernel_rfl) #[.int .u64 x208.Lo, .int .u64 x208.Hi] (by kernel_rfl) ?_
  intro w216 hb217 hc218
  have hz221 := hc218.size
  have hC220 := hC214.step1 hc218 (by omega)
  refine WR.fin (by kernel_rfl) ?_
  refine go hK100 ?_
  refine CW.ret ?_
  exact retD (P := Try.prog) (fn := Try.f19) (d := { target := .fn (.func 54) #[pt g2 0, pt g32 0], args := #[] }) (fv := .func 54) (cap := #[pt g2 0, pt g32 0]) (f := 54) (args := #[pt g2 0, pt g32 0]) (M := fun w1 => Chg [] w216 w1) rfl (by kernel_rfl) (span_Do_1_ret g2 g32 w216) (fun _ => [.agg #[.int .u64 x208.Lo, .int .u64 x208.Hi]]) (fun w1 hM => ⟨resCell (hb217.pure hM) rfl (by kernel_rfl), trivial⟩) (fun w1 hM => ⟨(hC220.pure hM), (congrArg TSpan.v hs211).symm⟩)
 have hs222 := ifF hq205 hs204
 rcases Bool.eq_false_or_eq_true (a0 == (6 : Int)) with hq223 | hq223
 ·
  have hs225 := ifT hq223 hs222
  replace hq223 := bEqT hq223
  have hf224 : (rule0_f a0) = .func (.func 81) #[] #[] := by rw [hq223]; rfl
  refine WR.eqF (F' := [(5, pt g2 0), (6, pt g12 0), (7, pt g22 0), (8, pt g32 0), (32, .func (.func 81) #[] #[]), (33, .bool a1), (34, .agg #[.int .u64 a2.Lo, .int .u64 a2.Hi]), (35, .agg #[.int .u64 a3.Lo, .int .u64 a3.Hi]), (36, .agg #[.int .u64 x104.a.Lo, .int .u64 x104.a.Hi, .int .u64 x104.b.Lo, .int .u64 x104.b.Hi, .bool x104.narrow, .int .u64 x104.most, .int .u64 x104.size])]) (by rw [hf224]) ?_
  obtain ⟨x226, hx227⟩ : ∃ x, span_work_and x104 = x := ⟨_, rfl⟩
  have hs229 := letS hx227 hs225
  have hx228 : IU64 x226.Lo ∧ IU64 x226.Hi := by rw [← hx227]; exact span_work_and_ok x104 ⟨(by omega), (by omega), (by omega), (by omega), (by omega), (by omega)⟩ 
  refine WR.call (dst := some 37) (by kernel_rfl) (retE (g := TSpan.v) hx227 (span_work_and_any x104 w108  ⟨(by omega), (by omega), (by omega), (by omega), (by omega), (by omega)⟩ )) ?_
  rintro _ w230 hc231 rfl
  have hz233 := hc231.size
  have hC232 := hC110.pure hc231
  have hb237 := ((((hb35.pure hc47).pure hc64).pure hc77).pure hc109).pure hc231
  refine WR.store (t := 25) (o := 0) (v := .agg #[.int .u64 x226.Lo, .int .u64 x226.Hi]) hb237 (by kernel_rfl) #[.int .u64 x226.Lo, .int .u64 x226.Hi] (by kernel_rfl) ?_
  intro w234 hb235 hc236
  have hz239 := hc236.size
  have hC238 := hC232.step1 hc236 (by omega)
  refine WR.fin (by kernel_rfl) ?_
  refine go hK100 ?_
  refine CW.ret ?_
  exact retD (P := Try.prog) (fn := Try.f19) (d := { target := .fn (.func 54) #[pt g2 0, pt g32 0], args := #[] }) (fv := .func 54) (cap := #[pt g2 0, pt g32 0]) (f := 54) (args := #[pt g2 0, pt g32 0]) (M := fun w1 => Chg [] w234 w1) rfl (by kernel_rfl) (span_Do_1_ret g2 g32 w234) (fun _ => [.agg #[.int .u64 x226.Lo, .int .u64 x226.Hi]]) (fun w1 hM => ⟨resCell (hb235.pure hM) rfl (by kernel_rfl), trivial⟩) (fun w1 hM => ⟨(hC238.pure hM), (congrArg TSpan.v hs229).symm⟩)
 have hs240 := ifF hq223 hs222
 rcases Bool.eq_false_or_eq_true (a0 == (7 : Int)) with hq241 | hq241
 ·
  have hs243 := ifT hq241 hs240
  replace hq241 := bEqT hq241
  have hf242 : (rule0_f a0) = .func (.func 82) #[] #[] := by rw [hq241]; rfl
  refine WR.eqF (F' := [(5, pt g2 0), (6, pt g12 0), (7, pt g22 0), (8, pt g32 0), (32, .func (.func 82) #[] #[]), (33, .bool a1), (34, .agg #[.int .u64 a2.Lo, .int .u64 a2.Hi]), (35, .agg #[.int .u64 a3.Lo, .int .u64 a3.Hi]), (36, .agg #[.int .u64 x104.a.Lo, .int .u64 x104.a.Hi, .int .u64 x104.b.Lo, .int .u64 x104.b.Hi, .bool x104.narrow, .int .u64 x104.most, .int .u64 x104.size])]) (by rw [hf242]) ?_
  obtain ⟨x244, hx245⟩ : ∃ x, span_work_or x104 = x := ⟨_, rfl⟩
  have hs247 := letS hx245 hs243
  have hx246 : IU64 x244.Lo ∧ IU64 x244.Hi := by rw [← hx245]; exact span_work_or_ok x104 ⟨(by omega), (by omega), (by omega), (by omega), (by omega), (by omega)⟩ 
  refine WR.call (dst := some 37) (by kernel_rfl) (retE (g := TSpan.v) hx245 (span_work_or_any x104 w108  ⟨(by omega), (by omega), (by omega), (by omega), (by omega), (by omega)⟩ )) ?_
  rintro _ w248 hc249 rfl
  have hz251 := hc249.size
  have hC250 := hC110.pure hc249
  have hb255 := ((((hb35.pure hc47).pure hc64).pure hc77).pure hc109).pure hc249
  refine WR.store (t := 25) (o := 0) (v := .agg #[.int .u64 x244.Lo, .int .u64 x244.Hi]) hb255 (by kernel_rfl) #[.int .u64 x244.Lo, .int .u64 x244.Hi] (by kernel_rfl) ?_
  intro w252 hb253 hc254
  have hz257 := hc254.size
  have hC256 := hC250.step1 hc254 (by omega)
  refine WR.fin (by kernel_rfl) ?_
  refine go hK100 ?_
  refine CW.ret ?_
  exact retD (P := Try.prog) (fn := Try.f19) (d := { target := .fn (.func 54) #[pt g2 0, pt g32 0], args := #[] }) (fv := .func 54) (cap := #[pt g2 0, pt g32 0]) (f := 54) (args := #[pt g2 0, pt g32 0]) (M := fun w1 => Chg [] w252 w1) rfl (by kernel_rfl) (span_Do_1_ret g2 g32 w252) (fun _ => [.agg #[.int .u64 x244.Lo, .int .u64 x244.Hi]]) (fun w1 hM => ⟨resCell (hb253.pure hM) rfl (by kernel_rfl), trivial⟩) (fun w1 hM => ⟨(hC256.pure hM), (congrArg TSpan.v hs247).symm⟩)
 have hs258 := ifF hq241 hs240
 rcases Bool.eq_false_or_eq_true (a0 == (8 : Int)) with hq259 | hq259
 ·
  have hs261 := ifT hq259 hs258
  replace hq259 := bEqT hq259
  have hf260 : (rule0_f a0) = .func (.func 83) #[] #[] := by rw [hq259]; rfl
  refine WR.eqF (F' := [(5, pt g2 0), (6, pt g12 0), (7, pt g22 0), (8, pt g32 0), (32, .func (.func 83) #[] #[]), (33, .bool a1), (34, .agg #[.int .u64 a2.Lo, .int .u64 a2.Hi]), (35, .agg #[.int .u64 a3.Lo, .int .u64 a3.Hi]), (36, .agg #[.int .u64 x104.a.Lo, .int .u64 x104.a.Hi, .int .u64 x104.b.Lo, .int .u64 x104.b.Hi, .bool x104.narrow, .int .u64 x104.most, .int .u64 x104.size])]) (by rw [hf260]) ?_
  obtain ⟨x262, hx263⟩ : ∃ x, span_work_xor x104 = x := ⟨_, rfl⟩
  have hs265 := letS hx263 hs261
  have hx264 : IU64 x262.Lo ∧ IU64 x262.Hi := by rw [← hx263]; exact span_work_xor_ok x104 ⟨(by omega), (by omega), (by omega), (by omega), (by omega), (by omega)⟩ 
  refine WR.call (dst := some 37) (by kernel_rfl) (retE (g := TSpan.v) hx263 (span_work_xor_any x104 w108  ⟨(by omega), (by omega), (by omega), (by omega), (by omega), (by omega)⟩ )) ?_
  rintro _ w266 hc267 rfl
  have hz269 := hc267.size
  have hC268 := hC110.pure hc267
  have hb273 := ((((hb35.pure hc47).pure hc64).pure hc77).pure hc109).pure hc267
  refine WR.store (t := 25) (o := 0) (v := .agg #[.int .u64 x262.Lo, .int .u64 x262.Hi]) hb273 (by kernel_rfl) #[.int .u64 x262.Lo, .int .u64 x262.Hi] (by kernel_rfl) ?_
  intro w270 hb271 hc272
  have hz275 := hc272.size
  have hC274 := hC268.step1 hc272 (by omega)
  refine WR.fin (by kernel_rfl) ?_
  refine go hK100 ?_
  refine CW.ret ?_
  exact retD (P := Try.prog) (fn := Try.f19) (d := { target := .fn (.func 54) #[pt g2 0, pt g32 0], args := #[] }) (fv := .func 54) (cap := #[pt g2 0, pt g32 0]) (f := 54) (args := #[pt g2 0, pt g32 0]) (M := fun w1 => Chg [] w270 w1) rfl (by kernel_rfl) (span_Do_1_ret g2 g32 w270) (fun _ => [.agg #[.int .u64 x262.Lo, .int .u64 x262.Hi]]) (fun w1 hM => ⟨resCell (hb271.pure hM) rfl (by kernel_rfl), trivial⟩) (fun w1 hM => ⟨(hC274.pure hM), (congrArg TSpan.v hs265).symm⟩)
 have hs276 := ifF hq259 hs258
 rcases Bool.eq_false_or_eq_true (a0 == (9 : Int)) with hq277 | hq277
 ·
  have hs279 := ifT hq277 hs276
  replace hq277 := bEqT hq277
  have hf278 : (rule0_f a0) = .func (.func 84) #[] #[] := by rw [hq277]; rfl
  refine WR.eqF (F' := [(5, pt g2 0), (6, pt g12 0), (7, pt g22 0), (8, pt g32 0), (32, .func (.func 84) #[] #[]), (33, .bool a1), (34, .agg #[.int .u64 a2.Lo, .int .u64 a2.Hi]), (35, .agg #[.int .u64 a3.Lo, .int .u64 a3.Hi]), (36, .agg #[.int .u64 x104.a.Lo, .int .u64 x104.a.Hi, .int .u64 x104.b.Lo, .int .u64 x104.b.Hi, .bool x104.narrow, .int .u64 x104.most, .int .u64 x104.size])]) (by rw [hf278]) ?_
  rcases hx281 : span_work_shl x104 with _ | x280
  ·
   have hs285 := optN hx281 hs279
   refine WR.callX (dst := some 37) (by kernel_rfl) (retP_no (g := TSpan.v) hx281 (span_work_shl_any x104 w108  ⟨(by omega), (by omega), (by omega), (by omega), (by omega), (by omega)⟩ (by omega))) ?_
   intro w283 hc284
   have hz287 := hc284.size
   have hC286 := hC110.pure hc284
   have hb288 := (hb101.pure hc109).pure hc284
   have hb289 := ((((hb35.pure hc47).pure hc64).pure hc77).pure hc109).pure hc284
   exact panicD (P := Try.prog) (fn := Try.f19) (d := { target := .fn (.func 54) #[pt g2 0, pt g32 0], args := #[] }) (fv := .func 54) (cap := #[pt g2 0, pt g32 0]) (f := 54) (args := #[pt g2 0, pt g32 0]) (M := fun w1 => Chg [g32] w283 w1 ∧ Blk w1 g2 #[.bool a1] 4 ∧ Blk w1 g32 #[.int .u64 (span_All a1).Lo, .int .u64 (span_All a1).Hi] 25) (x := .iface 76 (.agg #[])) rfl (by kernel_rfl) (span_Do_1_pan a1 (⟨(0 : Int), (0 : Int)⟩ : TSpan) g2 g32 w283 hb288 hb289 (by omega)) (fun _ => [.agg #[.int .u64 (span_All a1).Lo, .int .u64 (span_All a1).Hi]]) (fun w1 hM => ⟨resCell hM.2.2 rfl (by kernel_rfl), trivial⟩) (fun w1 hM => ⟨hC286.step hM.1 (by intro t ht; simp only [List.mem_cons, List.not_mem_nil, or_false] at ht; subst ht; first | exact .inr (by omega) | exact .inl (by simp)), (congrArg TSpan.v hs285).symm⟩)
  have hs290 := optS hx281 hs279
  have hx282 : IU64 x280.Lo ∧ IU64 x280.Hi := by exact span_work_shl_ok x104 ⟨(by omega), (by omega), (by omega), (by omega), (by omega), (by omega)⟩ (by omega) _ hx281
  refine WR.call (dst := some 37) (by kernel_rfl) (retP_yes (g := TSpan.v) hx281 (span_work_shl_any x104 w108  ⟨(by omega), (by omega), (by omega), (by omega), (by omega), (by omega)⟩ (by omega))) ?_
  rintro _ w291 hc292 rfl
  have hz294 := hc292.size
  have hC293 := hC110.pure hc292
  have hb298 := ((((hb35.pure hc47).pure hc64).pure hc77).pure hc109).pure hc292
  refine WR.store (t := 25) (o := 0) (v := .agg #[.int .u64 x280.Lo, .int .u64 x280.Hi]) hb298 (by kernel_rfl) #[.int .u64 x280.Lo, .int .u64 x280.Hi] (by kernel_rfl) ?_
  intro w295 hb296 hc297
  have hz300 := hc297.size
  have hC299 := hC293.step1 hc297 (by omega)
  refine WR.fin (by kernel_rfl) ?_
  refine go hK100 ?_
  refine CW.ret ?_
  exact retD (P := Try.prog) (fn := Try.f19) (d := { target := .fn (.func 54) #[pt g2 0, pt g32 0], args := #[] }) (fv := .func 54) (cap := #[pt g2 0, pt g32 0]) (f := 54) (args := #[pt g2 0, pt g32 0]) (M := fun w1 => Chg [] w295 w1) rfl (by kernel_rfl) (span_Do_1_ret g2 g32 w295) (fun _ => [.agg #[.int .u64 x280.Lo, .int .u64 x280.Hi]]) (fun w1 hM => ⟨resCell (hb296.pure hM) rfl (by kernel_rfl), trivial⟩) (fun w1 hM => ⟨(hC299.pure hM), (congrArg TSpan.v hs290).symm⟩)
 have hs301 := ifF hq277 hs276
 rcases Bool.eq_false_or_eq_true (a0 == (10 : Int)) with hq302 | hq302
 ·
  have hs304 := ifT hq302 hs301
  replace hq302 := bEqT hq302
  have hf303 : (rule0_f a0) = .func (.func 85) #[] #[] := by rw [hq302]; rfl
  refine WR.eqF (F' := [(5, pt g2 0), (6, pt g12 0), (7, pt g22 0), (8, pt g32 0), (32, .func (.func 85) #[] #[]), (33, .bool a1), (34, .agg #[.int .u64 a2.Lo, .int .u64 a2.Hi]), (35, .agg #[.int .u64 a3.Lo, .int .u64 a3.Hi]), (36, .agg #[.int .u64 x104.a.Lo, .int .u64 x104.a.Hi, .int .u64 x104.b.Lo, .int .u64 x104.b.Hi, .bool x104.narrow, .int .u64 x104.most, .int .u64 x104.size])]) (by rw [hf303]) ?_
  obtain ⟨x305, hx306⟩ : ∃ x, span_work_shr x104 = x := ⟨_, rfl⟩
  have hs308 := letS hx306 hs304
  have hx307 : IU64 x305.Lo ∧ IU64 x305.Hi := by rw [← hx306]; exact span_work_shr_ok x104 ⟨(by omega), (by omega), (by omega), (by omega), (by omega), (by omega)⟩ (by omega)
  refine WR.call (dst := some 37) (by kernel_rfl) (retE (g := TSpan.v) hx306 (span_work_shr_any x104 w108  ⟨(by omega), (by omega), (by omega), (by omega), (by omega), (by omega)⟩ (by omega))) ?_
  rintro _ w309 hc310 rfl
  have hz312 := hc310.size
  have hC311 := hC110.pure hc310
  have hb316 := ((((hb35.pure hc47).pure hc64).pure hc77).pure hc109).pure hc310
  refine WR.store (t := 25) (o := 0) (v := .agg #[.int .u64 x305.Lo, .int .u64 x305.Hi]) hb316 (by kernel_rfl) #[.int .u64 x305.Lo, .int .u64 x305.Hi] (by kernel_rfl) ?_
  intro w313 hb314 hc315
  have hz318 := hc315.size
  have hC317 := hC311.step1 hc315 (by omega)
  refine WR.fin (by kernel_rfl) ?_
  refine go hK100 ?_
  refine CW.ret ?_
  exact retD (P := Try.prog) (fn := Try.f19) (d := { target := .fn (.func 54) #[pt g2 0, pt g32 0], args := #[] }) (fv := .func 54) (cap := #[pt g2 0, pt g32 0]) (f := 54) (args := #[pt g2 0, pt g32 0]) (M := fun w1 => Chg [] w313 w1) rfl (by kernel_rfl) (span_Do_1_ret g2 g32 w313) (fun _ => [.agg #[.int .u64 x305.Lo, .int .u64 x305.Hi]]) (fun w1 hM => ⟨resCell (hb314.pure hM) rfl (by kernel_rfl), trivial⟩) (fun w1 hM => ⟨(hC317.pure hM), (congrArg TSpan.v hs308).symm⟩)
 have hs319 := ifF hq302 hs301
 rcases Bool.eq_false_or_eq_true (a0 == (11 : Int)) with hq320 | hq320
 ·
  have hs322 := ifT hq320 hs319
  replace hq320 := bEqT hq320
  have hf321 : (rule0_f a0) = .func (.func 86) #[] #[] := by rw [hq320]; rfl
  refine WR.eqF (F' := [(5, pt g2 0), (6, pt g12 0), (7, pt g22 0), (8, pt g32 0), (32, .func (.func 86) #[] #[]), (33, .bool a1), (34, .agg #[.int .u64 a2.Lo, .int .u64 a2.Hi]), (35, .agg #[.int .u64 a3.Lo, .int .u64 a3.Hi]), (36, .agg #[.int .u64 x104.a.Lo, .int .u64 x104.a.Hi, .int .u64 x104.b.Lo, .int .u64 x104.b.Hi, .bool x104.narrow, .int .u64 x104.most, .int .u64 x104.size])]) (by rw [hf321]) ?_
  rcases hx324 : span_work_sar x104 with _ | x323
  ·
   have hs328 := optN hx324 hs322
   refine WR.callX (dst := some 37) (by kernel_rfl) (retP_no (g := TSpan.v) hx324 (span_work_sar_any x104 w108  ⟨(by omega), (by omega), (by omega), (by omega), (by omega), (by omega)⟩ )) ?_
   intro w326 hc327
   have hz330 := hc327.size
   have hC329 := hC110.pure hc327
   have hb331 := (hb101.pure hc109).pure hc327
   have hb332 := ((((hb35.pure hc47).pure hc64).pure hc77).pure hc109).pure hc327
   exact panicD (P := Try.prog) (fn := Try.f19) (d := { target := .fn (.func 54) #[pt g2 0, pt g32 0], args := #[] }) (fv := .func 54) (cap := #[pt g2 0, pt g32 0]) (f := 54) (args := #[pt g2 0, pt g32 0]) (M := fun w1 => Chg [g32] w326 w1 ∧ Blk w1 g2 #[.bool a1] 4 ∧ Blk w1 g32 #[.int .u64 (span_All a1).Lo, .int .u64 (span_All a1).Hi] 25) (x := .iface 76 (.agg #[])) rfl (by kernel_rfl) (span_Do_1_pan a1 (⟨(0 : Int), (0 : Int)⟩ : TSpan) g2 g32 w326 hb331 hb332 (by omega)) (fun _ => [.agg #[.int .u64 (span_All a1).Lo, .int .u64 (span_All a1).Hi]]) (fun w1 hM => ⟨resCell hM.2.2 rfl (by kernel_rfl), trivial⟩) (fun w1 hM => ⟨hC329.step hM.1 (by intro t ht; simp only [List.mem_cons, List.not_mem_nil, or_false] at ht; subst ht; first | exact .inr (by omega) | exact .inl (by simp)), (congrArg TSpan.v hs328).symm⟩)
  have hs333 := optS hx324 hs322
  have hx325 : IU64 x323.Lo ∧ IU64 x323.Hi := by exact span_work_sar_ok x104 ⟨(by omega), (by omega), (by omega), (by omega), (by omega), (by omega)⟩  _ hx324
  refine WR.call (dst := some 37) (by kernel_rfl) (retP_yes (g := TSpan.v) hx324 (span_work_sar_any x104 w108  ⟨(by omega), (by omega), (by omega), (by omega), (by omega), (by omega)⟩ )) ?_
  rintro _ w334 hc335 rfl
  have hz337 := hc335.size
  have hC336 := hC110.pure hc335
  have hb341 := ((((hb35.pure hc47).pure hc64).pure hc77).pure hc109).pure hc335
  refine WR.store (t := 25) (o := 0) (v := .agg #[.int .u64 x323.Lo, .int .u64 x323.Hi]) hb341 (by kernel_rfl) #[.int .u64 x323.Lo, .int .u64 x323.Hi] (by kernel_rfl) ?_
  intro w338 hb339 hc340
  have hz343 := hc340.size
  have hC342 := hC336.step1 hc340 (by omega)
  refine WR.fin (by kernel_rfl) ?_
  refine go hK100 ?_
  refine CW.ret ?_
  exact retD (P := Try.prog) (fn := Try.f19) (d := { target := .fn (.func 54) #[pt g2 0, pt g32 0], args := #[] }) (fv := .func 54) (cap := #[pt g2 0, pt g32 0]) (f := 54) (args := #[pt g2 0, pt g32 0]) (M := fun w1 => Chg [] w338 w1) rfl (by kernel_rfl) (span_Do_1_ret g2 g32 w338) (fun _ => [.agg #[.int .u64 x323.Lo, .int .u64 x323.Hi]]) (fun w1 hM => ⟨resCell (hb339.pure hM) rfl (by kernel_rfl), trivial⟩) (fun w1 hM => ⟨(hC342.pure hM), (congrArg TSpan.v hs333).symm⟩)
 have hs344 := ifF hq320 hs319
 rcases Bool.eq_false_or_eq_true (a0 == (12 : Int)) with hq345 | hq345
 ·
  have hs347 := ifT hq345 hs344
  replace hq345 := bEqT hq345
  have hf346 : (rule0_f a0) = .func (.func 87) #[] #[] := by rw [hq345]; rfl
  refine WR.eqF (F' := [(5, pt g2 0), (6, pt g12 0), (7, pt g22 0), (8, pt g32 0), (32, .func (.func 87) #[] #[]), (33, .bool a1), (34, .agg #[.int .u64 a2.Lo, .int .u64 a2.Hi]), (35, .agg #[.int .u64 a3.Lo, .int .u64 a3.Hi]), (36, .agg #[.int .u64 x104.a.Lo, .int .u64 x104.a.Hi, .int .u64 x104.b.Lo, .int .u64 x104.b.Hi, .bool x104.narrow, .int .u64 x104.most, .int .u64 x104.size])]) (by rw [hf346]) ?_
  obtain ⟨x348, hx349⟩ : ∃ x, span_work_mov x104 = x := ⟨_, rfl⟩
  have hs351 := letS hx349 hs347
  have hx350 : IU64 x348.Lo ∧ IU64 x348.Hi := by rw [← hx349]; exact span_work_mov_ok x104 ⟨(by omega), (by omega), (by omega), (by omega), (by omega), (by omega)⟩ 
  refine WR.call (dst := some 37) (by kernel_rfl) (retE (g := TSpan.v) hx349 (span_work_mov_any x104 w108  ⟨(by omega), (by omega), (by omega), (by omega), (by omega), (by omega)⟩ )) ?_
  rintro _ w352 hc353 rfl
  have hz355 := hc353.size
  have hC354 := hC110.pure hc353
  have hb359 := ((((hb35.pure hc47).pure hc64).pure hc77).pure hc109).pure hc353
  refine WR.store (t := 25) (o := 0) (v := .agg #[.int .u64 x348.Lo, .int .u64 x348.Hi]) hb359 (by kernel_rfl) #[.int .u64 x348.Lo, .int .u64 x348.Hi] (by kernel_rfl) ?_
  intro w356 hb357 hc358
  have hz361 := hc358.size
  have hC360 := hC354.step1 hc358 (by omega)
  refine WR.fin (by kernel_rfl) ?_
  refine go hK100 ?_
  refine CW.ret ?_
  exact retD (P := Try.prog) (fn := Try.f19) (d := { target := .fn (.func 54) #[pt g2 0, pt g32 0], args := #[] }) (fv := .func 54) (cap := #[pt g2 0, pt g32 0]) (f := 54) (args := #[pt g2 0, pt g32 0]) (M := fun w1 => Chg [] w356 w1) rfl (by kernel_rfl) (span_Do_1_ret g2 g32 w356) (fun _ => [.agg #[.int .u64 x348.Lo, .int .u64 x348.Hi]]) (fun w1 hM => ⟨resCell (hb357.pure hM) rfl (by kernel_rfl), trivial⟩) (fun w1 hM => ⟨(hC360.pure hM), (congrArg TSpan.v hs351).symm⟩)
 have hs362 := ifF hq345 hs344
 rcases Bool.eq_false_or_eq_true (a0 == (13 : Int)) with hq363 | hq363
 ·
  have hs365 := ifT hq363 hs362
  replace hq363 := bEqT hq363
  have hf364 : (rule0_f a0) = .func (.func 88) #[] #[] := by rw [hq363]; rfl
  refine WR.eqF (F' := [(5, pt g2 0), (6, pt g12 0), (7, pt g22 0), (8, pt g32 0), (32, .func (.func 88) #[] #[]), (33, .bool a1), (34, .agg #[.int .u64 a2.Lo, .int .u64 a2.Hi]), (35, .agg #[.int .u64 a3.Lo, .int .u64 a3.Hi]), (36, .agg #[.int .u64 x104.a.Lo, .int .u64 x104.a.Hi, .int .u64 x104.b.Lo, .int .u64 x104.b.Hi, .bool x104.narrow, .int .u64 x104.most, .int .u64 x104.size])]) (by rw [hf364]) ?_
  rcases hx367 : span_work_neg x104 with _ | x366
  ·
   have hs371 := optN hx367 hs365
   refine WR.callX (dst := some 37) (by kernel_rfl) (retP_no (g := TSpan.v) hx367 (span_work_neg_any x104 w108  ⟨(by omega), (by omega), (by omega), (by omega), (by omega), (by omega)⟩ )) ?_
   intro w369 hc370
   have hz373 := hc370.size
   have hC372 := hC110.pure hc370
   have hb374 := (hb101.pure hc109).pure hc370
   have hb375 := ((((hb35.pure hc47).pure hc64).pure hc77).pure hc109).pure hc370
   exact panicD (P := Try.prog) (fn := Try.f19) (d := { target := .fn (.func 54) #[pt g2 0, pt g32 0], args := #[] }) (fv := .func 54) (cap := #[pt g2 0, pt g32 0]) (f := 54) (args := #[pt g2 0, pt g32 0]) (M := fun w1 => Chg [g32] w369 w1 ∧ Blk w1 g2 #[.bool a1] 4 ∧ Blk w1 g32 #[.int .u64 (span_All a1).Lo, .int .u64 (span_All a1).Hi] 25) (x := .iface 76 (.agg #[])) rfl (by kernel_rfl) (span_Do_1_pan a1 (⟨(0 : Int), (0 : Int)⟩ : TSpan) g2 g32 w369 hb374 hb375 (by omega)) (fun _ => [.agg #[.int .u64 (span_All a1).Lo, .int .u64 (span_All a1).Hi]]) (fun w1 hM => ⟨resCell hM.2.2 rfl (by kernel_rfl), trivial⟩) (fun w1 hM => ⟨hC372.step hM.1 (by intro t ht; simp only [List.mem_cons, List.not_mem_nil, or_false] at ht; subst ht; first | exact .inr (by omega) | exact .inl (by simp)), (congrArg TSpan.v hs371).symm⟩)
  have hs376 := optS hx367 hs365
  have hx368 : IU64 x366.Lo ∧ IU64 x366.Hi := by exact span_work_neg_ok x104 ⟨(by omega), (by omega), (by omega), (by omega), (by omega), (by omega)⟩  _ hx367
  refine WR.call (dst := some 37) (by kernel_rfl) (retP_yes (g := TSpan.v) hx367 (span_work_neg_any x104 w108  ⟨(by omega), (by omega), (by omega), (by omega), (by omega), (by omega)⟩ )) ?_
  rintro _ w377 hc378 rfl
  have hz380 := hc378.size
  have hC379 := hC110.pure hc378
  have hb384 := ((((hb35.pure hc47).pure hc64).pure hc77).pure hc109).pure hc378
  refine WR.store (t := 25) (o := 0) (v := .agg #[.int .u64 x366.Lo, .int .u64 x366.Hi]) hb384 (by kernel_rfl) #[.int .u64 x366.Lo, .int .u64 x366.Hi] (by kernel_rfl) ?_
  intro w381 hb382 hc383
  have hz386 := hc383.size
  have hC385 := hC379.step1 hc383 (by omega)
  refine WR.fin (by kernel_rfl) ?_
  refine go hK100 ?_
  refine CW.ret ?_
  exact retD (P := Try.prog) (fn := Try.f19) (d := { target := .fn (.func 54) #[pt g2 0, pt g32 0], args := #[] }) (fv := .func 54) (cap := #[pt g2 0, pt g32 0]) (f := 54) (args := #[pt g2 0, pt g32 0]) (M := fun w1 => Chg [] w381 w1) rfl (by kernel_rfl) (span_Do_1_ret g2 g32 w381) (fun _ => [.agg #[.int .u64 x366.Lo, .int .u64 x366.Hi]]) (fun w1 hM => ⟨resCell (hb382.pure hM) rfl (by kernel_rfl), trivial⟩) (fun w1 hM => ⟨(hC385.pure hM), (congrArg TSpan.v hs376).symm⟩)
 have hs387 := ifF hq363 hs362
 exact absurd ht80 (by simp [show rule0_is a0 = false from by simp only [rule0_is, hq112, hq137, hq162, hq187, hq205, hq223, hq241, hq259, hq277, hq302, hq320, hq345, hq363]; rfl])
end Go.V
