import Derived.Test.YtjiagljaipadmaaProg
import Derived.Test.YtjiagljaipadmaaSx
namespace Go.V
open Go.RowKit Go.Proofs
theorem span_Do_1_ret (g0_ g1_ : Nat) (w : World) : CallsD Try.prog 54 #[pt g0_ 0, pt g1_ 0] .returning w (fun e u' w' => (∃ v0, e = .returned v0) ∧ u' = .returning ∧ Chg [] w w') := by
 refine callsD_rec (u' := .returning) (v := .nilIface) Try.func54 rfl (n := 18) Try.ntmps54 (by kernel_rfl) [0, 1] (F := [(0, pt g0_ 0), (1, pt g1_ 0)]) (by kernel_rfl) 5 (by kernel_rfl) (by kernel_rfl) rfl ?_
 intro K1 hK1
 refine WR.batch 1 [(0, pt g0_ 0), (1, pt g1_ 0), (2, .nilIface)] (by kernel_rfl) ?_
 refine WR.fin (by kernel_rfl) ?_
 refine go hK1 ?_
 refine CW.seq fun K2 hK2 => ?_
 refine CW.region ?_
 refine WR.batch 2 [(0, pt g0_ 0), (1, pt g1_ 0), (2, .nilIface), (7, .bool false)] (by kernel_rfl) ?_
 refine WR.fin (by kernel_rfl) ?_
 refine go hK2 ?_
 refine CW.no (by kernel_rfl) ?_
 refine CW.skip ?_
 exact endV (P := Try.prog) (fn := Try.f54) (.tuple #[]) (by kernel_rfl) ⟨⟨_, rfl⟩, rfl, Chg.refl _ _⟩

theorem span_Do_1_pan (c0 : Bool) (c1 : TSpan) (g0_ g1_ : Nat) (w : World) (hb0_ : Blk w g0_ #[.bool c0] 4) (hb1_ : Blk w g1_ #[.int .u64 c1.Lo, .int .u64 c1.Hi] 25) (_hd10 : g1_ ≠ g0_) : CallsD Try.prog 54 #[pt g0_ 0, pt g1_ 0] (.panicking [{ v := .iface 76 (.agg #[]), recovered := false }]) w (fun e u' w' => (∃ v0, e = .returned v0) ∧ u' = .panicking [{ v := .iface 76 (.agg #[]), recovered := true }] ∧ Chg [g1_] w w' ∧ Blk w' g0_ #[.bool c0] 4 ∧ Blk w' g1_ #[.int .u64 (span_All c0).Lo, .int .u64 (span_All c0).Hi] 25) := by
 refine callsD_rec (u' := (.panicking [{ v := .iface 76 (.agg #[]), recovered := true }])) (v := .iface 76 (.agg #[])) Try.func54 rfl (n := 18) Try.ntmps54 (by kernel_rfl) [0, 1] (F := [(0, pt g0_ 0), (1, pt g1_ 0)]) (by kernel_rfl) 5 (by kernel_rfl) (by kernel_rfl) rfl ?_
 intro K1 hK1
 refine WR.batch 1 [(0, pt g0_ 0), (1, pt g1_ 0), (2, .iface 76 (.agg #[]))] (by kernel_rfl) ?_
 refine WR.fin (by kernel_rfl) ?_
 refine go hK1 ?_
 refine CW.seq fun K2 hK2 => ?_
 refine CW.region ?_
 refine WR.batch 2 [(0, pt g0_ 0), (1, pt g1_ 0), (2, .iface 76 (.agg #[])), (7, .bool true)] (by kernel_rfl) ?_
 refine WR.fin (by kernel_rfl) ?_
 refine go hK2 ?_
 refine CW.yes (by kernel_rfl) ?_
 refine CW.seq fun K3 hK3 => ?_
 refine CW.seq fun K4 hK4 => ?_
 refine CW.region ?_
 refine WR.batch 5 [(0, pt g0_ 0), (1, pt g1_ 0), (2, .iface 76 (.agg #[])), (11, .agg #[]), (12, .bool true)] (by kernel_rfl) ?_
 refine WR.alloc (dst := some 3) (e := 76) (by kernel_rfl) #[] (by kernel_rfl) ?_
 intro g5 w6 hN7
 have hl10 : g0_ < g5 := Nat.lt_of_lt_of_le hb0_.lt hN7.fresh
 have hl11 : g1_ < g5 := Nat.lt_of_lt_of_le hb1_.lt hN7.fresh
 have hf9 : w.heap.size ≤ g5 := hN7.fresh
 have hfr13 := hN7.fresh
 have hc12 := hN7.chg
 have hz15 := hc12.size
 have hC14 := (Chg.refl [g1_] w).pure hc12
 have hb16 := hb0_.pure hc12
 have hb17 := hb1_.pure hc12
 have hb8 := hN7.blk
 have hg18 := hb8.lt
 refine WR.store (t := 76) (o := 0) (v := .agg #[]) hb8 (by kernel_rfl) #[] (by kernel_rfl) ?_
 intro w19 hb20 hc21
 have hz23 := hc21.size
 have hC22 := hC14.step1 hc21 (by omega)
 have hb24 := hb16.chg1 hc21 (by omega)
 have hb25 := hb17.chg1 hc21 (by omega)
 refine WR.batch 1 [(0, pt g0_ 0), (1, pt g1_ 0), (2, .iface 76 (.agg #[])), (4, .bool true)] (by kernel_rfl) ?_
 refine WR.fin (by kernel_rfl) ?_
 refine go hK4 ?_
 refine CW.seq fun K26 hK26 => ?_
 refine CW.region ?_
 refine WR.batch 2 [(0, pt g0_ 0), (1, pt g1_ 0), (2, .iface 76 (.agg #[])), (14, .bool false)] (by kernel_rfl) ?_
 refine WR.fin (by kernel_rfl) ?_
 refine go hK26 ?_
 refine CW.no (by kernel_rfl) ?_
 refine CW.skip ?_
 refine go hK3 ?_
 refine CW.region ?_
 refine WR.load (dst := some 16) (t := 4) (o := 0) hb24 (by kernel_rfl) (.bool c0) (by kernel_rfl) ?_
 have hx27 : (0 ≤ (span_All c0).Lo ∧ (span_All c0).Lo ≤ 18446744073709551615) ∧ (0 ≤ (span_All c0).Hi ∧ (span_All c0).Hi ≤ 18446744073709551615) := span_All_ok c0 
 refine WR.call (dst := some 17) (by kernel_rfl) (span_All_any c0 w19  ) ?_
 rintro _ w28 hc29 rfl
 have hz31 := hc29.size
 have hC30 := hC22.pure hc29
 have hb32 := hb24.pure hc29
 have hb33 := hb25.pure hc29
 have hb34 := hb20.pure hc29
 refine WR.store (t := 25) (o := 0) (v := .agg #[.int .u64 (span_All c0).Lo, .int .u64 (span_All c0).Hi]) hb33 (by kernel_rfl) #[.int .u64 (span_All c0).Lo, .int .u64 (span_All c0).Hi] (by kernel_rfl) ?_
 intro w35 hb36 hc37
 have hz39 := hc37.size
 have hC38 := hC30.step hc37 (by intro t ht; simp only [List.mem_cons, List.not_mem_nil, or_false] at ht; subst ht; first | exact .inr (by omega) | exact .inl (by simp))
 have hb40 := hb32.chg1 hc37 (by omega)
 have hb41 := hb34.chg1 hc37 (by omega)
 refine WR.fin (by kernel_rfl) ?_
 exact endV (P := Try.prog) (fn := Try.f54) (.tuple #[]) (by kernel_rfl) ⟨⟨_, rfl⟩, rfl, hC38, hb40, hb36⟩

theorem span_If_1_ret (g0_ g1_ g2_ : Nat) (w : World) : CallsD Try.prog 56 #[pt g0_ 0, pt g1_ 0, pt g2_ 0] .returning w (fun e u' w' => (∃ v0, e = .returned v0) ∧ u' = .returning ∧ Chg [] w w') := by
 refine callsD_rec (u' := .returning) (v := .nilIface) Try.func56 rfl (n := 19) Try.ntmps56 (by kernel_rfl) [0, 1, 2] (F := [(0, pt g0_ 0), (1, pt g1_ 0), (2, pt g2_ 0)]) (by kernel_rfl) 6 (by kernel_rfl) (by kernel_rfl) rfl ?_
 intro K1 hK1
 refine WR.batch 1 [(0, pt g0_ 0), (1, pt g1_ 0), (2, pt g2_ 0), (3, .nilIface)] (by kernel_rfl) ?_
 refine WR.fin (by kernel_rfl) ?_
 refine go hK1 ?_
 refine CW.seq fun K2 hK2 => ?_
 refine CW.region ?_
 refine WR.batch 2 [(0, pt g0_ 0), (1, pt g1_ 0), (2, pt g2_ 0), (3, .nilIface), (8, .bool false)] (by kernel_rfl) ?_
 refine WR.fin (by kernel_rfl) ?_
 refine go hK2 ?_
 refine CW.no (by kernel_rfl) ?_
 refine CW.skip ?_
 exact endV (P := Try.prog) (fn := Try.f56) (.tuple #[]) (by kernel_rfl) ⟨⟨_, rfl⟩, rfl, Chg.refl _ _⟩

theorem span_If_1_pan (c0 : TSpan) (c1 : TSpan) (c2 : Bool) (g0_ g1_ g2_ : Nat) (w : World) (hb0_ : Blk w g0_ #[.int .u64 c0.Lo, .int .u64 c0.Hi] 25) (hb1_ : Blk w g1_ #[.int .u64 c1.Lo, .int .u64 c1.Hi] 25) (hb2_ : Blk w g2_ #[.bool c2] 4) (_hd10 : g1_ ≠ g0_) (_hd20 : g2_ ≠ g0_) (_hd21 : g2_ ≠ g1_) : CallsD Try.prog 56 #[pt g0_ 0, pt g1_ 0, pt g2_ 0] (.panicking [{ v := .iface 76 (.agg #[]), recovered := false }]) w (fun e u' w' => (∃ v0, e = .returned v0) ∧ u' = .panicking [{ v := .iface 76 (.agg #[]), recovered := true }] ∧ Chg [g0_, g1_, g2_] w w' ∧ Blk w' g0_ #[.int .u64 (0 : Int), .int .u64 (0 : Int)] 25 ∧ Blk w' g1_ #[.int .u64 (0 : Int), .int .u64 (0 : Int)] 25 ∧ Blk w' g2_ #[.bool false] 4) := by
 refine callsD_rec (u' := (.panicking [{ v := .iface 76 (.agg #[]), recovered := true }])) (v := .iface 76 (.agg #[])) Try.func56 rfl (n := 19) Try.ntmps56 (by kernel_rfl) [0, 1, 2] (F := [(0, pt g0_ 0), (1, pt g1_ 0), (2, pt g2_ 0)]) (by kernel_rfl) 6 (by kernel_rfl) (by kernel_rfl) rfl ?_
 intro K1 hK1
 refine WR.batch 1 [(0, pt g0_ 0), (1, pt g1_ 0), (2, pt g2_ 0), (3, .iface 76 (.agg #[]))] (by kernel_rfl) ?_
 refine WR.fin (by kernel_rfl) ?_
 refine go hK1 ?_
 refine CW.seq fun K2 hK2 => ?_
 refine CW.region ?_
 refine WR.batch 2 [(0, pt g0_ 0), (1, pt g1_ 0), (2, pt g2_ 0), (3, .iface 76 (.agg #[])), (8, .bool true)] (by kernel_rfl) ?_
 refine WR.fin (by kernel_rfl) ?_
 refine go hK2 ?_
 refine CW.yes (by kernel_rfl) ?_
 refine CW.seq fun K3 hK3 => ?_
 refine CW.seq fun K4 hK4 => ?_
 refine CW.region ?_
 refine WR.batch 5 [(0, pt g0_ 0), (1, pt g1_ 0), (2, pt g2_ 0), (3, .iface 76 (.agg #[])), (12, .agg #[]), (13, .bool true)] (by kernel_rfl) ?_
 refine WR.alloc (dst := some 4) (e := 76) (by kernel_rfl) #[] (by kernel_rfl) ?_
 intro g5 w6 hN7
 have hl10 : g0_ < g5 := Nat.lt_of_lt_of_le hb0_.lt hN7.fresh
 have hl11 : g1_ < g5 := Nat.lt_of_lt_of_le hb1_.lt hN7.fresh
 have hl12 : g2_ < g5 := Nat.lt_of_lt_of_le hb2_.lt hN7.fresh
 have hf9 : w.heap.size ≤ g5 := hN7.fresh
 have hfr14 := hN7.fresh
 have hc13 := hN7.chg
 have hz16 := hc13.size
 have hC15 := (Chg.refl [g0_, g1_, g2_] w).pure hc13
 have hb17 := hb0_.pure hc13
 have hb18 := hb1_.pure hc13
 have hb19 := hb2_.pure hc13
 have hb8 := hN7.blk
 have hg20 := hb8.lt
 refine WR.store (t := 76) (o := 0) (v := .agg #[]) hb8 (by kernel_rfl) #[] (by kernel_rfl) ?_
 intro w21 hb22 hc23
 have hz25 := hc23.size
 have hC24 := hC15.step1 hc23 (by omega)
 have hb26 := hb17.chg1 hc23 (by omega)
 have hb27 := hb18.chg1 hc23 (by omega)
 have hb28 := hb19.chg1 hc23 (by omega)
 refine WR.batch 1 [(0, pt g0_ 0), (1, pt g1_ 0), (2, pt g2_ 0), (3, .iface 76 (.agg #[])), (5, .bool true)] (by kernel_rfl) ?_
 refine WR.fin (by kernel_rfl) ?_
 refine go hK4 ?_
 refine CW.seq fun K29 hK29 => ?_
 refine CW.region ?_
 refine WR.batch 2 [(0, pt g0_ 0), (1, pt g1_ 0), (2, pt g2_ 0), (3, .iface 76 (.agg #[])), (15, .bool false)] (by kernel_rfl) ?_
 refine WR.fin (by kernel_rfl) ?_
 refine go hK29 ?_
 refine CW.no (by kernel_rfl) ?_
 refine CW.skip ?_
 refine go hK3 ?_
 refine CW.region ?_
 refine WR.batch 2 [(0, pt g0_ 0), (1, pt g1_ 0), (2, pt g2_ 0), (17, .agg #[.int .u64 0, .int .u64 0]), (18, .agg #[.int .u64 0, .int .u64 0])] (by kernel_rfl) ?_
 refine WR.store (t := 25) (o := 0) (v := .agg #[.int .u64 0, .int .u64 0]) hb26 (by kernel_rfl) #[.int .u64 0, .int .u64 0] (by kernel_rfl) ?_
 intro w30 hb31 hc32
 have hz34 := hc32.size
 have hC33 := hC24.step hc32 (by intro t ht; simp only [List.mem_cons, List.not_mem_nil, or_false] at ht; subst ht; first | exact .inr (by omega) | exact .inl (by simp))
 have hb35 := hb27.chg1 hc32 (by omega)
 have hb36 := hb28.chg1 hc32 (by omega)
 have hb37 := hb22.chg1 hc32 (by omega)
 refine WR.store (t := 25) (o := 0) (v := .agg #[.int .u64 0, .int .u64 0]) hb35 (by kernel_rfl) #[.int .u64 0, .int .u64 0] (by kernel_rfl) ?_
 intro w38 hb39 hc40
 have hz42 := hc40.size
 have hC41 := hC33.step hc40 (by intro t ht; simp only [List.mem_cons, List.not_mem_nil, or_false] at ht; subst ht; first | exact .inr (by omega) | exact .inl (by simp))
 have hb43 := hb31.chg1 hc40 (by omega)
 have hb44 := hb36.chg1 hc40 (by omega)
 have hb45 := hb37.chg1 hc40 (by omega)
 refine WR.store (t := 4) (o := 0) (v := .bool false) hb44 (by kernel_rfl) #[.bool false] (by kernel_rfl) ?_
 intro w46 hb47 hc48
 have hz50 := hc48.size
 have hC49 := hC41.step hc48 (by intro t ht; simp only [List.mem_cons, List.not_mem_nil, or_false] at ht; subst ht; first | exact .inr (by omega) | exact .inl (by simp))
 have hb51 := hb43.chg1 hc48 (by omega)
 have hb52 := hb39.chg1 hc48 (by omega)
 have hb53 := hb45.chg1 hc48 (by omega)
 refine WR.fin (by kernel_rfl) ?_
 exact endV (P := Try.prog) (fn := Try.f56) (.tuple #[]) (by kernel_rfl) ⟨⟨_, rfl⟩, rfl, hC49, hb51, hb52, hb47⟩

theorem span_rules_any (w : World) : Calls Try.prog 53 #[] w (Ret [] w fun v w' => ∃ g, v = .map (some g) ∧ Mp w' g #[({ key := .int .u8 (1 : Int), val := .func (.func 76) #[] #[], born := 0 } : MapEntry), ({ key := .int .u8 (2 : Int), val := .func (.func 77) #[] #[], born := 1 } : MapEntry), ({ key := .int .u8 (3 : Int), val := .func (.func 78) #[] #[], born := 2 } : MapEntry), ({ key := .int .u8 (4 : Int), val := .func (.func 79) #[] #[], born := 3 } : MapEntry), ({ key := .int .u8 (5 : Int), val := .func (.func 80) #[] #[], born := 4 } : MapEntry), ({ key := .int .u8 (6 : Int), val := .func (.func 81) #[] #[], born := 5 } : MapEntry), ({ key := .int .u8 (7 : Int), val := .func (.func 82) #[] #[], born := 6 } : MapEntry), ({ key := .int .u8 (8 : Int), val := .func (.func 83) #[] #[], born := 7 } : MapEntry), ({ key := .int .u8 (9 : Int), val := .func (.func 84) #[] #[], born := 8 } : MapEntry), ({ key := .int .u8 (10 : Int), val := .func (.func 85) #[] #[], born := 9 } : MapEntry), ({ key := .int .u8 (11 : Int), val := .func (.func 86) #[] #[], born := 10 } : MapEntry), ({ key := .int .u8 (12 : Int), val := .func (.func 87) #[] #[], born := 11 } : MapEntry), ({ key := .int .u8 (13 : Int), val := .func (.func 88) #[] #[], born := 12 } : MapEntry)] 13 ∧ w.heap.size ≤ g) := by
 refine calls_of_CW Try.func53 rfl (n := 3) Try.ntmps53 (by kernel_rfl) [] (F := []) (by kernel_rfl) ?_
 refine CW.seq fun K1 hK1 => ?_
 refine CW.region ?_
 refine WR.batch 1 [] (by kernel_rfl) ?_
 refine WR.fin (by kernel_rfl) ?_
 refine go hK1 ?_
 refine CW.seq fun K2 hK2 => ?_
 refine CW.region ?_
 refine WR.mkMap (dst := some 1) (t := 73) (by kernel_rfl) ?_
 intro g3 w4 hN5
 have hf7 : w.heap.size ≤ g3 := hN5.fresh
 have hfr9 := hN5.fresh
 have hc8 := hN5.chg
 have hz11 := hc8.size
 have hC10 := (Chg.refl [] w).pure hc8
 have hb6 := hN5.blk
 have hg12 := hb6.lt
 refine WR.insert (t := 73) (kt := 22) (et := 71) (d := .int .u8) (x := .int .u8 1) (v := .func (.func 76) #[] #[]) hb6 (by kernel_rfl) (by kernel_rfl) rfl (by kernel_rfl) #[({ key := .int .u8 1, val := .func (.func 76) #[] #[], born := 0 } : MapEntry)] (by kernel_rfl) ?_
 intro w13 hb14 hc15
 have hz17 := hc15.size
 have hC16 := hC10.step1 hc15 (by omega)
 refine WR.insert (t := 73) (kt := 22) (et := 71) (d := .int .u8) (x := .int .u8 2) (v := .func (.func 77) #[] #[]) hb14 (by kernel_rfl) (by kernel_rfl) rfl (by kernel_rfl) #[({ key := .int .u8 1, val := .func (.func 76) #[] #[], born := 0 } : MapEntry), ({ key := .int .u8 2, val := .func (.func 77) #[] #[], born := 1 } : MapEntry)] (by kernel_rfl) ?_
 intro w18 hb19 hc20
 have hz22 := hc20.size
 have hC21 := hC16.step1 hc20 (by omega)
 refine WR.insert (t := 73) (kt := 22) (et := 71) (d := .int .u8) (x := .int .u8 3) (v := .func (.func 78) #[] #[]) hb19 (by kernel_rfl) (by kernel_rfl) rfl (by kernel_rfl) #[({ key := .int .u8 1, val := .func (.func 76) #[] #[], born := 0 } : MapEntry), ({ key := .int .u8 2, val := .func (.func 77) #[] #[], born := 1 } : MapEntry), ({ key := .int .u8 3, val := .func (.func 78) #[] #[], born := 2 } : MapEntry)] (by kernel_rfl) ?_
 intro w23 hb24 hc25
 have hz27 := hc25.size
 have hC26 := hC21.step1 hc25 (by omega)
 refine WR.insert (t := 73) (kt := 22) (et := 71) (d := .int .u8) (x := .int .u8 4) (v := .func (.func 79) #[] #[]) hb24 (by kernel_rfl) (by kernel_rfl) rfl (by kernel_rfl) #[({ key := .int .u8 1, val := .func (.func 76) #[] #[], born := 0 } : MapEntry), ({ key := .int .u8 2, val := .func (.func 77) #[] #[], born := 1 } : MapEntry), ({ key := .int .u8 3, val := .func (.func 78) #[] #[], born := 2 } : MapEntry), ({ key := .int .u8 4, val := .func (.func 79) #[] #[], born := 3 } : MapEntry)] (by kernel_rfl) ?_
 intro w28 hb29 hc30
 have hz32 := hc30.size
 have hC31 := hC26.step1 hc30 (by omega)
 refine WR.insert (t := 73) (kt := 22) (et := 71) (d := .int .u8) (x := .int .u8 5) (v := .func (.func 80) #[] #[]) hb29 (by kernel_rfl) (by kernel_rfl) rfl (by kernel_rfl) #[({ key := .int .u8 1, val := .func (.func 76) #[] #[], born := 0 } : MapEntry), ({ key := .int .u8 2, val := .func (.func 77) #[] #[], born := 1 } : MapEntry), ({ key := .int .u8 3, val := .func (.func 78) #[] #[], born := 2 } : MapEntry), ({ key := .int .u8 4, val := .func (.func 79) #[] #[], born := 3 } : MapEntry), ({ key := .int .u8 5, val := .func (.func 80) #[] #[], born := 4 } : MapEntry)] (by kernel_rfl) ?_
 intro w33 hb34 hc35
 have hz37 := hc35.size
 have hC36 := hC31.step1 hc35 (by omega)
 refine WR.insert (t := 73) (kt := 22) (et := 71) (d := .int .u8) (x := .int .u8 6) (v := .func (.func 81) #[] #[]) hb34 (by kernel_rfl) (by kernel_rfl) rfl (by kernel_rfl) #[({ key := .int .u8 1, val := .func (.func 76) #[] #[], born := 0 } : MapEntry), ({ key := .int .u8 2, val := .func (.func 77) #[] #[], born := 1 } : MapEntry), ({ key := .int .u8 3, val := .func (.func 78) #[] #[], born := 2 } : MapEntry), ({ key := .int .u8 4, val := .func (.func 79) #[] #[], born := 3 } : MapEntry), ({ key := .int .u8 5, val := .func (.func 80) #[] #[], born := 4 } : MapEntry), ({ key := .int .u8 6, val := .func (.func 81) #[] #[], born := 5 } : MapEntry)] (by kernel_rfl) ?_
 intro w38 hb39 hc40
 have hz42 := hc40.size
 have hC41 := hC36.step1 hc40 (by omega)
 refine WR.insert (t := 73) (kt := 22) (et := 71) (d := .int .u8) (x := .int .u8 7) (v := .func (.func 82) #[] #[]) hb39 (by kernel_rfl) (by kernel_rfl) rfl (by kernel_rfl) #[({ key := .int .u8 1, val := .func (.func 76) #[] #[], born := 0 } : MapEntry), ({ key := .int .u8 2, val := .func (.func 77) #[] #[], born := 1 } : MapEntry), ({ key := .int .u8 3, val := .func (.func 78) #[] #[], born := 2 } : MapEntry), ({ key := .int .u8 4, val := .func (.func 79) #[] #[], born := 3 } : MapEntry), ({ key := .int .u8 5, val := .func (.func 80) #[] #[], born := 4 } : MapEntry), ({ key := .int .u8 6, val := .func (.func 81) #[] #[], born := 5 } : MapEntry), ({ key := .int .u8 7, val := .func (.func 82) #[] #[], born := 6 } : MapEntry)] (by kernel_rfl) ?_
 intro w43 hb44 hc45
 have hz47 := hc45.size
 have hC46 := hC41.step1 hc45 (by omega)
 refine WR.insert (t := 73) (kt := 22) (et := 71) (d := .int .u8) (x := .int .u8 8) (v := .func (.func 83) #[] #[]) hb44 (by kernel_rfl) (by kernel_rfl) rfl (by kernel_rfl) #[({ key := .int .u8 1, val := .func (.func 76) #[] #[], born := 0 } : MapEntry), ({ key := .int .u8 2, val := .func (.func 77) #[] #[], born := 1 } : MapEntry), ({ key := .int .u8 3, val := .func (.func 78) #[] #[], born := 2 } : MapEntry), ({ key := .int .u8 4, val := .func (.func 79) #[] #[], born := 3 } : MapEntry), ({ key := .int .u8 5, val := .func (.func 80) #[] #[], born := 4 } : MapEntry), ({ key := .int .u8 6, val := .func (.func 81) #[] #[], born := 5 } : MapEntry), ({ key := .int .u8 7, val := .func (.func 82) #[] #[], born := 6 } : MapEntry), ({ key := .int .u8 8, val := .func (.func 83) #[] #[], born := 7 } : MapEntry)] (by kernel_rfl) ?_
 intro w48 hb49 hc50
 have hz52 := hc50.size
 have hC51 := hC46.step1 hc50 (by omega)
 refine WR.insert (t := 73) (kt := 22) (et := 71) (d := .int .u8) (x := .int .u8 9) (v := .func (.func 84) #[] #[]) hb49 (by kernel_rfl) (by kernel_rfl) rfl (by kernel_rfl) #[({ key := .int .u8 1, val := .func (.func 76) #[] #[], born := 0 } : MapEntry), ({ key := .int .u8 2, val := .func (.func 77) #[] #[], born := 1 } : MapEntry), ({ key := .int .u8 3, val := .func (.func 78) #[] #[], born := 2 } : MapEntry), ({ key := .int .u8 4, val := .func (.func 79) #[] #[], born := 3 } : MapEntry), ({ key := .int .u8 5, val := .func (.func 80) #[] #[], born := 4 } : MapEntry), ({ key := .int .u8 6, val := .func (.func 81) #[] #[], born := 5 } : MapEntry), ({ key := .int .u8 7, val := .func (.func 82) #[] #[], born := 6 } : MapEntry), ({ key := .int .u8 8, val := .func (.func 83) #[] #[], born := 7 } : MapEntry), ({ key := .int .u8 9, val := .func (.func 84) #[] #[], born := 8 } : MapEntry)] (by kernel_rfl) ?_
 intro w53 hb54 hc55
 have hz57 := hc55.size
 have hC56 := hC51.step1 hc55 (by omega)
 refine WR.insert (t := 73) (kt := 22) (et := 71) (d := .int .u8) (x := .int .u8 10) (v := .func (.func 85) #[] #[]) hb54 (by kernel_rfl) (by kernel_rfl) rfl (by kernel_rfl) #[({ key := .int .u8 1, val := .func (.func 76) #[] #[], born := 0 } : MapEntry), ({ key := .int .u8 2, val := .func (.func 77) #[] #[], born := 1 } : MapEntry), ({ key := .int .u8 3, val := .func (.func 78) #[] #[], born := 2 } : MapEntry), ({ key := .int .u8 4, val := .func (.func 79) #[] #[], born := 3 } : MapEntry), ({ key := .int .u8 5, val := .func (.func 80) #[] #[], born := 4 } : MapEntry), ({ key := .int .u8 6, val := .func (.func 81) #[] #[], born := 5 } : MapEntry), ({ key := .int .u8 7, val := .func (.func 82) #[] #[], born := 6 } : MapEntry), ({ key := .int .u8 8, val := .func (.func 83) #[] #[], born := 7 } : MapEntry), ({ key := .int .u8 9, val := .func (.func 84) #[] #[], born := 8 } : MapEntry), ({ key := .int .u8 10, val := .func (.func 85) #[] #[], born := 9 } : MapEntry)] (by kernel_rfl) ?_
 intro w58 hb59 hc60
 have hz62 := hc60.size
 have hC61 := hC56.step1 hc60 (by omega)
 refine WR.insert (t := 73) (kt := 22) (et := 71) (d := .int .u8) (x := .int .u8 11) (v := .func (.func 86) #[] #[]) hb59 (by kernel_rfl) (by kernel_rfl) rfl (by kernel_rfl) #[({ key := .int .u8 1, val := .func (.func 76) #[] #[], born := 0 } : MapEntry), ({ key := .int .u8 2, val := .func (.func 77) #[] #[], born := 1 } : MapEntry), ({ key := .int .u8 3, val := .func (.func 78) #[] #[], born := 2 } : MapEntry), ({ key := .int .u8 4, val := .func (.func 79) #[] #[], born := 3 } : MapEntry), ({ key := .int .u8 5, val := .func (.func 80) #[] #[], born := 4 } : MapEntry), ({ key := .int .u8 6, val := .func (.func 81) #[] #[], born := 5 } : MapEntry), ({ key := .int .u8 7, val := .func (.func 82) #[] #[], born := 6 } : MapEntry), ({ key := .int .u8 8, val := .func (.func 83) #[] #[], born := 7 } : MapEntry), ({ key := .int .u8 9, val := .func (.func 84) #[] #[], born := 8 } : MapEntry), ({ key := .int .u8 10, val := .func (.func 85) #[] #[], born := 9 } : MapEntry), ({ key := .int .u8 11, val := .func (.func 86) #[] #[], born := 10 } : MapEntry)] (by kernel_rfl) ?_
 intro w63 hb64 hc65
 have hz67 := hc65.size
 have hC66 := hC61.step1 hc65 (by omega)
 refine WR.insert (t := 73) (kt := 22) (et := 71) (d := .int .u8) (x := .int .u8 12) (v := .func (.func 87) #[] #[]) hb64 (by kernel_rfl) (by kernel_rfl) rfl (by kernel_rfl) #[({ key := .int .u8 1, val := .func (.func 76) #[] #[], born := 0 } : MapEntry), ({ key := .int .u8 2, val := .func (.func 77) #[] #[], born := 1 } : MapEntry), ({ key := .int .u8 3, val := .func (.func 78) #[] #[], born := 2 } : MapEntry), ({ key := .int .u8 4, val := .func (.func 79) #[] #[], born := 3 } : MapEntry), ({ key := .int .u8 5, val := .func (.func 80) #[] #[], born := 4 } : MapEntry), ({ key := .int .u8 6, val := .func (.func 81) #[] #[], born := 5 } : MapEntry), ({ key := .int .u8 7, val := .func (.func 82) #[] #[], born := 6 } : MapEntry), ({ key := .int .u8 8, val := .func (.func 83) #[] #[], born := 7 } : MapEntry), ({ key := .int .u8 9, val := .func (.func 84) #[] #[], born := 8 } : MapEntry), ({ key := .int .u8 10, val := .func (.func 85) #[] #[], born := 9 } : MapEntry), ({ key := .int .u8 11, val := .func (.func 86) #[] #[], born := 10 } : MapEntry), ({ key := .int .u8 12, val := .func (.func 87) #[] #[], born := 11 } : MapEntry)] (by kernel_rfl) ?_
 intro w68 hb69 hc70
 have hz72 := hc70.size
 have hC71 := hC66.step1 hc70 (by omega)
 refine WR.insert (t := 73) (kt := 22) (et := 71) (d := .int .u8) (x := .int .u8 13) (v := .func (.func 88) #[] #[]) hb69 (by kernel_rfl) (by kernel_rfl) rfl (by kernel_rfl) #[({ key := .int .u8 1, val := .func (.func 76) #[] #[], born := 0 } : MapEntry), ({ key := .int .u8 2, val := .func (.func 77) #[] #[], born := 1 } : MapEntry), ({ key := .int .u8 3, val := .func (.func 78) #[] #[], born := 2 } : MapEntry), ({ key := .int .u8 4, val := .func (.func 79) #[] #[], born := 3 } : MapEntry), ({ key := .int .u8 5, val := .func (.func 80) #[] #[], born := 4 } : MapEntry), ({ key := .int .u8 6, val := .func (.func 81) #[] #[], born := 5 } : MapEntry), ({ key := .int .u8 7, val := .func (.func 82) #[] #[], born := 6 } : MapEntry), ({ key := .int .u8 8, val := .func (.func 83) #[] #[], born := 7 } : MapEntry), ({ key := .int .u8 9, val := .func (.func 84) #[] #[], born := 8 } : MapEntry), ({ key := .int .u8 10, val := .func (.func 85) #[] #[], born := 9 } : MapEntry), ({ key := .int .u8 11, val := .func (.func 86) #[] #[], born := 10 } : MapEntry), ({ key := .int .u8 12, val := .func (.func 87) #[] #[], born := 11 } : MapEntry), ({ key := .int .u8 13, val := .func (.func 88) #[] #[], born := 12 } : MapEntry)] (by kernel_rfl) ?_
 intro w73 hb74 hc75
 have hz77 := hc75.size
 have hC76 := hC71.step1 hc75 (by omega)
 refine WR.batch 2 [(0, .map (some g3))] (by kernel_rfl) ?_
 refine WR.fin (by kernel_rfl) ?_
 refine go hK2 ?_
 refine CW.ret ?_
 exact retV (.map (some g3)) (by kernel_rfl) ⟨hC76, g3, rfl, hb74, by omega⟩

theorem span_over_size (a0 : Bool) (a1 a2 : TSpan) : (span_over a0 a1 a2).size = 32 ∨ (span_over a0 a1 a2).size = 64 := by
  rw [span_over.eq_1]
  cases a0 <;> simp

def span_Do (a0 : Int) (a1 : Bool) (a2 : TSpan) (a3 : TSpan)  : TSpan := (if (a0 == (1 : Int)) then (letF (span_Right a2) fun x71 => (if ((!x71) || (!(span_Right a3))) then (letF (span_All a1) fun x106 => x106) else (letF (span_over a1 a2 a3) fun x132 => (optF (span_work_add x132) ((span_All a1)) fun x146 => x146)))) else (if (a0 == (2 : Int)) then (letF (span_Right a2) fun x184 => (if ((!x184) || (!(span_Right a3))) then (letF (span_All a1) fun x220 => x220) else (letF (span_over a1 a2 a3) fun x246 => (optF (span_work_sub x246) ((span_All a1)) fun x260 => x260)))) else (if (a0 == (3 : Int)) then (letF (span_Right a2) fun x298 => (if ((!x298) || (!(span_Right a3))) then (letF (span_All a1) fun x334 => x334) else (letF (span_over a1 a2 a3) fun x360 => (optF (span_work_mul x360) ((span_All a1)) fun x374 => x374)))) else (if (a0 == (4 : Int)) then (letF (span_Right a2) fun x412 => (if ((!x412) || (!(span_Right a3))) then (letF (span_All a1) fun x448 => x448) else (letF (span_over a1 a2 a3) fun x474 => (letF (span_work_div x474) fun x488 => x488)))) else (if (a0 == (5 : Int)) then (letF (span_Right a2) fun x516 => (if ((!x516) || (!(span_Right a3))) then (letF (span_All a1) fun x552 => x552) else (letF (span_over a1 a2 a3) fun x578 => (letF (span_work_mod x578) fun x592 => x592)))) else (if (a0 == (6 : Int)) then (letF (span_Right a2) fun x620 => (if ((!x620) || (!(span_Right a3))) then (letF (span_All a1) fun x656 => x656) else (letF (span_over a1 a2 a3) fun x682 => (letF (span_work_and x682) fun x696 => x696)))) else (if (a0 == (7 : Int)) then (letF (span_Right a2) fun x724 => (if ((!x724) || (!(span_Right a3))) then (letF (span_All a1) fun x760 => x760) else (letF (span_over a1 a2 a3) fun x786 => (letF (span_work_or x786) fun x800 => x800)))) else (if (a0 == (8 : Int)) then (letF (span_Right a2) fun x828 => (if ((!x828) || (!(span_Right a3))) then (letF (span_All a1) fun x864 => x864) else (letF (span_over a1 a2 a3) fun x890 => (letF (span_work_xor x890) fun x904 => x904)))) else (if (a0 == (9 : Int)) then (letF (span_Right a2) fun x932 => (if ((!x932) || (!(span_Right a3))) then (letF (span_All a1) fun x968 => x968) else (letF (span_over a1 a2 a3) fun x994 => (optF (span_work_shl x994) ((span_All a1)) fun x1008 => x1008)))) else (if (a0 == (10 : Int)) then (letF (span_Right a2) fun x1046 => (if ((!x1046) || (!(span_Right a3))) then (letF (span_All a1) fun x1082 => x1082) else (letF (span_over a1 a2 a3) fun x1108 => (letF (span_work_shr x1108) fun x1122 => x1122)))) else (if (a0 == (11 : Int)) then (letF (span_Right a2) fun x1150 => (if ((!x1150) || (!(span_Right a3))) then (letF (span_All a1) fun x1186 => x1186) else (letF (span_over a1 a2 a3) fun x1212 => (optF (span_work_sar x1212) ((span_All a1)) fun x1226 => x1226)))) else (if (a0 == (12 : Int)) then (letF (span_Right a2) fun x1264 => (if ((!x1264) || (!(span_Right a3))) then (letF (span_All a1) fun x1300 => x1300) else (letF (span_over a1 a2 a3) fun x1326 => (letF (span_work_mov x1326) fun x1340 => x1340)))) else (if (a0 == (13 : Int)) then (letF (span_Right a2) fun x1368 => (if ((!x1368) || (!(span_Right a3))) then (letF (span_All a1) fun x1404 => x1404) else (letF (span_over a1 a2 a3) fun x1430 => (optF (span_work_neg x1430) ((span_All a1)) fun x1444 => x1444)))) else (letF (span_All a1) fun x1481 => x1481))))))))))))))

theorem span_Do_ok (a0 : Int) (a1 : Bool) (a2 : TSpan) (a3 : TSpan)  (_h_a0 : (0 ≤ a0 ∧ a0 ≤ 255)) (_h_a2 : (0 ≤ a2.Lo ∧ a2.Lo ≤ 18446744073709551615) ∧ (0 ≤ a2.Hi ∧ a2.Hi ≤ 18446744073709551615)) (_h_a3 : (0 ≤ a3.Lo ∧ a3.Lo ≤ 18446744073709551615) ∧ (0 ≤ a3.Hi ∧ a3.Hi ≤ 18446744073709551615))  : (0 ≤ (span_Do a0 a1 a2 a3).Lo ∧ (span_Do a0 a1 a2 a3).Lo ≤ 18446744073709551615) ∧ (0 ≤ (span_Do a0 a1 a2 a3).Hi ∧ (span_Do a0 a1 a2 a3).Hi ≤ 18446744073709551615) := by
 rw [span_Do.eq_1]
 refine iteR (p := fun r : TSpan => (0 ≤ r.Lo ∧ r.Lo ≤ 18446744073709551615) ∧ (0 ≤ r.Hi ∧ r.Hi ≤ 18446744073709551615)) (fun hi1001 => ?_) (fun hi1001 => ?_)
 ·
  replace hi1001 : a0 = (1 : Int) := (bEqT hi1001)
  refine letR (p := fun r : TSpan => (0 ≤ r.Lo ∧ r.Lo ≤ 18446744073709551615) ∧ (0 ≤ r.Hi ∧ r.Hi ≤ 18446744073709551615)) fun x71 _ => ?_
  refine iteR (p := fun r : TSpan => (0 ≤ r.Lo ∧ r.Lo ≤ 18446744073709551615) ∧ (0 ≤ r.Hi ∧ r.Hi ≤ 18446744073709551615)) (fun hi1002 => ?_) (fun hi1002 => ?_)
  ·
   replace hi1002 : (x71 = false) ∨ ((span_Right a3) = false) := (orMap (bOrT hi1002) (fun h => (bNotT h)) (fun h => (bNotT h)))
   refine letR (p := fun r : TSpan => (0 ≤ r.Lo ∧ r.Lo ≤ 18446744073709551615) ∧ (0 ≤ r.Hi ∧ r.Hi ≤ 18446744073709551615)) fun x106 hx107 => ?_
   have hx108 : (0 ≤ x106.Lo ∧ x106.Lo ≤ 18446744073709551615) ∧ (0 ≤ x106.Hi ∧ x106.Hi ≤ 18446744073709551615) := by rw [← hx107]; exact span_All_ok a1 
   exact (by exact (show (0 ≤ x106.Lo ∧ x106.Lo ≤ 18446744073709551615) ∧ (0 ≤ x106.Hi ∧ x106.Hi ≤ 18446744073709551615) from ⟨(by omega), (by omega)⟩))
  replace hi1002 : (x71 = true) ∧ ((span_Right a3) = true) := ⟨(bNotF (bOrF hi1002).1), (bNotF (bOrF hi1002).2)⟩
  refine letR (p := fun r : TSpan => (0 ≤ r.Lo ∧ r.Lo ≤ 18446744073709551615) ∧ (0 ≤ r.Hi ∧ r.Hi ≤ 18446744073709551615)) fun x132 hx133 => ?_
  have hxx132_ : x132.size = 32 ∨ x132.size = 64 := by rw [← hx133]; exact span_over_size _ _ _
  have hx134 : (0 ≤ x132.a.Lo ∧ x132.a.Lo ≤ 18446744073709551615) ∧ (0 ≤ x132.a.Hi ∧ x132.a.Hi ≤ 18446744073709551615) ∧ (0 ≤ x132.b.Lo ∧ x132.b.Lo ≤ 18446744073709551615) ∧ (0 ≤ x132.b.Hi ∧ x132.b.Hi ≤ 18446744073709551615) ∧ (0 ≤ x132.most ∧ x132.most ≤ 18446744073709551615) ∧ (0 ≤ x132.size ∧ x132.size ≤ 18446744073709551615) := by rw [← hx133]; exact span_over_ok a1 a2 a3 ⟨(by omega), (by omega)⟩ ⟨(by omega), (by omega)⟩ 
  refine optR (p := fun r : TSpan => (0 ≤ r.Lo ∧ r.Lo ≤ 18446744073709551615) ∧ (0 ≤ r.Hi ∧ r.Hi ≤ 18446744073709551615)) (fun _ => ?_) (fun x146 hx147 => ?_)
  ·
   exact (by have : (0 ≤ (span_All a1).Lo ∧ (span_All a1).Lo ≤ 18446744073709551615) ∧ (0 ≤ (span_All a1).Hi ∧ (span_All a1).Hi ≤ 18446744073709551615) := span_All_ok a1 ; exact (show (0 ≤ (span_All a1).Lo ∧ (span_All a1).Lo ≤ 18446744073709551615) ∧ (0 ≤ (span_All a1).Hi ∧ (span_All a1).Hi ≤ 18446744073709551615) from ⟨(by omega), (by omega)⟩))
  have hx148 : (0 ≤ x146.Lo ∧ x146.Lo ≤ 18446744073709551615) ∧ (0 ≤ x146.Hi ∧ x146.Hi ≤ 18446744073709551615) := by exact span_work_add_ok x132 ⟨(by omega), (by omega), (by omega), (by omega), (by omega), (by omega)⟩  _ hx147
  exact (by exact (show (0 ≤ x146.Lo ∧ x146.Lo ≤ 18446744073709551615) ∧ (0 ≤ x146.Hi ∧ x146.Hi ≤ 18446744073709551615) from ⟨(by omega), (by omega)⟩))
 replace hi1001 : a0 ≠ (1 : Int) := (bEqF hi1001)
 refine iteR (p := fun r : TSpan => (0 ≤ r.Lo ∧ r.Lo ≤ 18446744073709551615) ∧ (0 ≤ r.Hi ∧ r.Hi ≤ 18446744073709551615)) (fun hi1003 => ?_) (fun hi1003 => ?_)
 ·
  replace hi1003 : a0 = (2 : Int) := (bEqT hi1003)
  refine letR (p := fun r : TSpan => (0 ≤ r.Lo ∧ r.Lo ≤ 18446744073709551615) ∧ (0 ≤ r.Hi ∧ r.Hi ≤ 18446744073709551615)) fun x184 _ => ?_
  refine iteR (p := fun r : TSpan => (0 ≤ r.Lo ∧ r.Lo ≤ 18446744073709551615) ∧ (0 ≤ r.Hi ∧ r.Hi ≤ 18446744073709551615)) (fun hi1004 => ?_) (fun hi1004 => ?_)
  ·
   replace hi1004 : (x184 = false) ∨ ((span_Right a3) = false) := (orMap (bOrT hi1004) (fun h => (bNotT h)) (fun h => (bNotT h)))
   refine letR (p := fun r : TSpan => (0 ≤ r.Lo ∧ r.Lo ≤ 18446744073709551615) ∧ (0 ≤ r.Hi ∧ r.Hi ≤ 18446744073709551615)) fun x220 hx221 => ?_
   have hx222 : (0 ≤ x220.Lo ∧ x220.Lo ≤ 18446744073709551615) ∧ (0 ≤ x220.Hi ∧ x220.Hi ≤ 18446744073709551615) := by rw [← hx221]; exact span_All_ok a1 
   exact (by exact (show (0 ≤ x220.Lo ∧ x220.Lo ≤ 18446744073709551615) ∧ (0 ≤ x220.Hi ∧ x220.Hi ≤ 18446744073709551615) from ⟨(by omega), (by omega)⟩))
  replace hi1004 : (x184 = true) ∧ ((span_Right a3) = true) := ⟨(bNotF (bOrF hi1004).1), (bNotF (bOrF hi1004).2)⟩
  refine letR (p := fun r : TSpan => (0 ≤ r.Lo ∧ r.Lo ≤ 18446744073709551615) ∧ (0 ≤ r.Hi ∧ r.Hi ≤ 18446744073709551615)) fun x246 hx247 => ?_
  have hxx246_ : x246.size = 32 ∨ x246.size = 64 := by rw [← hx247]; exact span_over_size _ _ _
  have hx248 : (0 ≤ x246.a.Lo ∧ x246.a.Lo ≤ 18446744073709551615) ∧ (0 ≤ x246.a.Hi ∧ x246.a.Hi ≤ 18446744073709551615) ∧ (0 ≤ x246.b.Lo ∧ x246.b.Lo ≤ 18446744073709551615) ∧ (0 ≤ x246.b.Hi ∧ x246.b.Hi ≤ 18446744073709551615) ∧ (0 ≤ x246.most ∧ x246.most ≤ 18446744073709551615) ∧ (0 ≤ x246.size ∧ x246.size ≤ 18446744073709551615) := by rw [← hx247]; exact span_over_ok a1 a2 a3 ⟨(by omega), (by omega)⟩ ⟨(by omega), (by omega)⟩ 
  refine optR (p := fun r : TSpan => (0 ≤ r.Lo ∧ r.Lo ≤ 18446744073709551615) ∧ (0 ≤ r.Hi ∧ r.Hi ≤ 18446744073709551615)) (fun _ => ?_) (fun x260 hx261 => ?_)
  ·
   exact (by have : (0 ≤ (span_All a1).Lo ∧ (span_All a1).Lo ≤ 18446744073709551615) ∧ (0 ≤ (span_All a1).Hi ∧ (span_All a1).Hi ≤ 18446744073709551615) := span_All_ok a1 ; exact (show (0 ≤ (span_All a1).Lo ∧ (span_All a1).Lo ≤ 18446744073709551615) ∧ (0 ≤ (span_All a1).Hi ∧ (span_All a1).Hi ≤ 18446744073709551615) from ⟨(by omega), (by omega)⟩))
  have hx262 : (0 ≤ x260.Lo ∧ x260.Lo ≤ 18446744073709551615) ∧ (0 ≤ x260.Hi ∧ x260.Hi ≤ 18446744073709551615) := by exact span_work_sub_ok x246 ⟨(by omega), (by omega), (by omega), (by omega), (by omega), (by omega)⟩  _ hx261
  exact (by exact (show (0 ≤ x260.Lo ∧ x260.Lo ≤ 18446744073709551615) ∧ (0 ≤ x260.Hi ∧ x260.Hi ≤ 18446744073709551615) from ⟨(by omega), (by omega)⟩))
 replace hi1003 : a0 ≠ (2 : Int) := (bEqF hi1003)
 refine iteR (p := fun r : TSpan => (0 ≤ r.Lo ∧ r.Lo ≤ 18446744073709551615) ∧ (0 ≤ r.Hi ∧ r.Hi ≤ 18446744073709551615)) (fun hi1005 => ?_) (fun hi1005 => ?_)
 ·
  replace hi1005 : a0 = (3 : Int) := (bEqT hi1005)
  refine letR (p := fun r : TSpan => (0 ≤ r.Lo ∧ r.Lo ≤ 18446744073709551615) ∧ (0 ≤ r.Hi ∧ r.Hi ≤ 18446744073709551615)) fun x298 _ => ?_
  refine iteR (p := fun r : TSpan => (0 ≤ r.Lo ∧ r.Lo ≤ 18446744073709551615) ∧ (0 ≤ r.Hi ∧ r.Hi ≤ 18446744073709551615)) (fun hi1006 => ?_) (fun hi1006 => ?_)
  ·
   replace hi1006 : (x298 = false) ∨ ((span_Right a3) = false) := (orMap (bOrT hi1006) (fun h => (bNotT h)) (fun h => (bNotT h)))
   refine letR (p := fun r : TSpan => (0 ≤ r.Lo ∧ r.Lo ≤ 18446744073709551615) ∧ (0 ≤ r.Hi ∧ r.Hi ≤ 18446744073709551615)) fun x334 hx335 => ?_
   have hx336 : (0 ≤ x334.Lo ∧ x334.Lo ≤ 18446744073709551615) ∧ (0 ≤ x334.Hi ∧ x334.Hi ≤ 18446744073709551615) := by rw [← hx335]; exact span_All_ok a1 
   exact (by exact (show (0 ≤ x334.Lo ∧ x334.Lo ≤ 18446744073709551615) ∧ (0 ≤ x334.Hi ∧ x334.Hi ≤ 18446744073709551615) from ⟨(by omega), (by omega)⟩))
  replace hi1006 : (x298 = true) ∧ ((span_Right a3) = true) := ⟨(bNotF (bOrF hi1006).1), (bNotF (bOrF hi1006).2)⟩
  refine letR (p := fun r : TSpan => (0 ≤ r.Lo ∧ r.Lo ≤ 18446744073709551615) ∧ (0 ≤ r.Hi ∧ r.Hi ≤ 18446744073709551615)) fun x360 hx361 => ?_
  have hxx360_ : x360.size = 32 ∨ x360.size = 64 := by rw [← hx361]; exact span_over_size _ _ _
  have hx362 : (0 ≤ x360.a.Lo ∧ x360.a.Lo ≤ 18446744073709551615) ∧ (0 ≤ x360.a.Hi ∧ x360.a.Hi ≤ 18446744073709551615) ∧ (0 ≤ x360.b.Lo ∧ x360.b.Lo ≤ 18446744073709551615) ∧ (0 ≤ x360.b.Hi ∧ x360.b.Hi ≤ 18446744073709551615) ∧ (0 ≤ x360.most ∧ x360.most ≤ 18446744073709551615) ∧ (0 ≤ x360.size ∧ x360.size ≤ 18446744073709551615) := by rw [← hx361]; exact span_over_ok a1 a2 a3 ⟨(by omega), (by omega)⟩ ⟨(by omega), (by omega)⟩ 
  refine optR (p := fun r : TSpan => (0 ≤ r.Lo ∧ r.Lo ≤ 18446744073709551615) ∧ (0 ≤ r.Hi ∧ r.Hi ≤ 18446744073709551615)) (fun _ => ?_) (fun x374 hx375 => ?_)
  ·
   exact (by have : (0 ≤ (span_All a1).Lo ∧ (span_All a1).Lo ≤ 18446744073709551615) ∧ (0 ≤ (span_All a1).Hi ∧ (span_All a1).Hi ≤ 18446744073709551615) := span_All_ok a1 ; exact (show (0 ≤ (span_All a1).Lo ∧ (span_All a1).Lo ≤ 18446744073709551615) ∧ (0 ≤ (span_All a1).Hi ∧ (span_All a1).Hi ≤ 18446744073709551615) from ⟨(by omega), (by omega)⟩))
  have hx376 : (0 ≤ x374.Lo ∧ x374.Lo ≤ 18446744073709551615) ∧ (0 ≤ x374.Hi ∧ x374.Hi ≤ 18446744073709551615) := by exact span_work_mul_ok x360 ⟨(by omega), (by omega), (by omega), (by omega), (by omega), (by omega)⟩  _ hx375
  exact (by exact (show (0 ≤ x374.Lo ∧ x374.Lo ≤ 18446744073709551615) ∧ (0 ≤ x374.Hi ∧ x374.Hi ≤ 18446744073709551615) from ⟨(by omega), (by omega)⟩))
 replace hi1005 : a0 ≠ (3 : Int) := (bEqF hi1005)
 refine iteR (p := fun r : TSpan => (0 ≤ r.Lo ∧ r.Lo ≤ 18446744073709551615) ∧ (0 ≤ r.Hi ∧ r.Hi ≤ 18446744073709551615)) (fun hi1007 => ?_) (fun hi1007 => ?_)
 ·
  replace hi1007 : a0 = (4 : Int) := (bEqT hi1007)
  refine letR (p := fun r : TSpan => (0 ≤ r.Lo ∧ r.Lo ≤ 18446744073709551615) ∧ (0 ≤ r.Hi ∧ r.Hi ≤ 18446744073709551615)) fun x412 _ => ?_
  refine iteR (p := fun r : TSpan => (0 ≤ r.Lo ∧ r.Lo ≤ 18446744073709551615) ∧ (0 ≤ r.Hi ∧ r.Hi ≤ 18446744073709551615)) (fun hi1008 => ?_) (fun hi1008 => ?_)
  ·
   replace hi1008 : (x412 = false) ∨ ((span_Right a3) = false) := (orMap (bOrT hi1008) (fun h => (bNotT h)) (fun h => (bNotT h)))
   refine letR (p := fun r : TSpan => (0 ≤ r.Lo ∧ r.Lo ≤ 18446744073709551615) ∧ (0 ≤ r.Hi ∧ r.Hi ≤ 18446744073709551615)) fun x448 hx449 => ?_
   have hx450 : (0 ≤ x448.Lo ∧ x448.Lo ≤ 18446744073709551615) ∧ (0 ≤ x448.Hi ∧ x448.Hi ≤ 18446744073709551615) := by rw [← hx449]; exact span_All_ok a1 
   exact (by exact (show (0 ≤ x448.Lo ∧ x448.Lo ≤ 18446744073709551615) ∧ (0 ≤ x448.Hi ∧ x448.Hi ≤ 18446744073709551615) from ⟨(by omega), (by omega)⟩))
  replace hi1008 : (x412 = true) ∧ ((span_Right a3) = true) := ⟨(bNotF (bOrF hi1008).1), (bNotF (bOrF hi1008).2)⟩
  refine letR (p := fun r : TSpan => (0 ≤ r.Lo ∧ r.Lo ≤ 18446744073709551615) ∧ (0 ≤ r.Hi ∧ r.Hi ≤ 18446744073709551615)) fun x474 hx475 => ?_
  have hxx474_ : x474.size = 32 ∨ x474.size = 64 := by rw [← hx475]; exact span_over_size _ _ _
  have hx476 : (0 ≤ x474.a.Lo ∧ x474.a.Lo ≤ 18446744073709551615) ∧ (0 ≤ x474.a.Hi ∧ x474.a.Hi ≤ 18446744073709551615) ∧ (0 ≤ x474.b.Lo ∧ x474.b.Lo ≤ 18446744073709551615) ∧ (0 ≤ x474.b.Hi ∧ x474.b.Hi ≤ 18446744073709551615) ∧ (0 ≤ x474.most ∧ x474.most ≤ 18446744073709551615) ∧ (0 ≤ x474.size ∧ x474.size ≤ 18446744073709551615) := by rw [← hx475]; exact span_over_ok a1 a2 a3 ⟨(by omega), (by omega)⟩ ⟨(by omega), (by omega)⟩ 
  refine letR (p := fun r : TSpan => (0 ≤ r.Lo ∧ r.Lo ≤ 18446744073709551615) ∧ (0 ≤ r.Hi ∧ r.Hi ≤ 18446744073709551615)) fun x488 hx489 => ?_
  have hx490 : (0 ≤ x488.Lo ∧ x488.Lo ≤ 18446744073709551615) ∧ (0 ≤ x488.Hi ∧ x488.Hi ≤ 18446744073709551615) := by rw [← hx489]; exact span_work_div_ok x474 ⟨(by omega), (by omega), (by omega), (by omega), (by omega), (by omega)⟩ 
  exact (by exact (show (0 ≤ x488.Lo ∧ x488.Lo ≤ 18446744073709551615) ∧ (0 ≤ x488.Hi ∧ x488.Hi ≤ 18446744073709551615) from ⟨(by omega), (by omega)⟩))
 replace hi1007 : a0 ≠ (4 : Int) := (bEqF hi1007)
 refine iteR (p := fun r : TSpan => (0 ≤ r.Lo ∧ r.Lo ≤ 18446744073709551615) ∧ (0 ≤ r.Hi ∧ r.Hi ≤ 18446744073709551615)) (fun hi1009 => ?_) (fun hi1009 => ?_)
 ·
  replace hi1009 : a0 = (5 : Int) := (bEqT hi1009)
  refine letR (p := fun r : TSpan => (0 ≤ r.Lo ∧ r.Lo ≤ 18446744073709551615) ∧ (0 ≤ r.Hi ∧ r.Hi ≤ 18446744073709551615)) fun x516 _ => ?_
  refine iteR (p := fun r : TSpan => (0 ≤ r.Lo ∧ r.Lo ≤ 18446744073709551615) ∧ (0 ≤ r.Hi ∧ r.Hi ≤ 18446744073709551615)) (fun hi1010 => ?_) (fun hi1010 => ?_)
  ·
   replace hi1010 : (x516 = false) ∨ ((span_Right a3) = false) := (orMap (bOrT hi1010) (fun h => (bNotT h)) (fun h => (bNotT h)))
   refine letR (p := fun r : TSpan => (0 ≤ r.Lo ∧ r.Lo ≤ 18446744073709551615) ∧ (0 ≤ r.Hi ∧ r.Hi ≤ 18446744073709551615)) fun x552 hx553 => ?_
   have hx554 : (0 ≤ x552.Lo ∧ x552.Lo ≤ 18446744073709551615) ∧ (0 ≤ x552.Hi ∧ x552.Hi ≤ 18446744073709551615) := by rw [← hx553]; exact span_All_ok a1 
   exact (by exact (show (0 ≤ x552.Lo ∧ x552.Lo ≤ 18446744073709551615) ∧ (0 ≤ x552.Hi ∧ x552.Hi ≤ 18446744073709551615) from ⟨(by omega), (by omega)⟩))
  replace hi1010 : (x516 = true) ∧ ((span_Right a3) = true) := ⟨(bNotF (bOrF hi1010).1), (bNotF (bOrF hi1010).2)⟩
  refine letR (p := fun r : TSpan => (0 ≤ r.Lo ∧ r.Lo ≤ 18446744073709551615) ∧ (0 ≤ r.Hi ∧ r.Hi ≤ 18446744073709551615)) fun x578 hx579 => ?_
  have hxx578_ : x578.size = 32 ∨ x578.size = 64 := by rw [← hx579]; exact span_over_size _ _ _
  have hx580 : (0 ≤ x578.a.Lo ∧ x578.a.Lo ≤ 18446744073709551615) ∧ (0 ≤ x578.a.Hi ∧ x578.a.Hi ≤ 18446744073709551615) ∧ (0 ≤ x578.b.Lo ∧ x578.b.Lo ≤ 18446744073709551615) ∧ (0 ≤ x578.b.Hi ∧ x578.b.Hi ≤ 18446744073709551615) ∧ (0 ≤ x578.most ∧ x578.most ≤ 18446744073709551615) ∧ (0 ≤ x578.size ∧ x578.size ≤ 18446744073709551615) := by rw [← hx579]; exact span_over_ok a1 a2 a3 ⟨(by omega), (by omega)⟩ ⟨(by omega), (by omega)⟩ 
  refine letR (p := fun r : TSpan => (0 ≤ r.Lo ∧ r.Lo ≤ 18446744073709551615) ∧ (0 ≤ r.Hi ∧ r.Hi ≤ 18446744073709551615)) fun x592 hx593 => ?_
  have hx594 : (0 ≤ x592.Lo ∧ x592.Lo ≤ 18446744073709551615) ∧ (0 ≤ x592.Hi ∧ x592.Hi ≤ 18446744073709551615) := by rw [← hx593]; exact span_work_mod_ok x578 ⟨(by omega), (by omega), (by omega), (by omega), (by omega), (by omega)⟩ 
  exact (by exact (show (0 ≤ x592.Lo ∧ x592.Lo ≤ 18446744073709551615) ∧ (0 ≤ x592.Hi ∧ x592.Hi ≤ 18446744073709551615) from ⟨(by omega), (by omega)⟩))
 replace hi1009 : a0 ≠ (5 : Int) := (bEqF hi1009)
 refine iteR (p := fun r : TSpan => (0 ≤ r.Lo ∧ r.Lo ≤ 18446744073709551615) ∧ (0 ≤ r.Hi ∧ r.Hi ≤ 18446744073709551615)) (fun hi1011 => ?_) (fun hi1011 => ?_)
 ·
  replace hi1011 : a0 = (6 : Int) := (bEqT hi1011)
  refine letR (p := fun r : TSpan => (0 ≤ r.Lo ∧ r.Lo ≤ 18446744073709551615) ∧ (0 ≤ r.Hi ∧ r.Hi ≤ 18446744073709551615)) fun x620 _ => ?_
  refine iteR (p := fun r : TSpan => (0 ≤ r.Lo ∧ r.Lo ≤ 18446744073709551615) ∧ (0 ≤ r.Hi ∧ r.Hi ≤ 18446744073709551615)) (fun hi1012 => ?_) (fun hi1012 => ?_)
  ·
   replace hi1012 : (x620 = false) ∨ ((span_Right a3) = false) := (orMap (bOrT hi1012) (fun h => (bNotT h)) (fun h => (bNotT h)))
   refine letR (p := fun r : TSpan => (0 ≤ r.Lo ∧ r.Lo ≤ 18446744073709551615) ∧ (0 ≤ r.Hi ∧ r.Hi ≤ 18446744073709551615)) fun x656 hx657 => ?_
   have hx658 : (0 ≤ x656.Lo ∧ x656.Lo ≤ 18446744073709551615) ∧ (0 ≤ x656.Hi ∧ x656.Hi ≤ 18446744073709551615) := by rw [← hx657]; exact span_All_ok a1 
   exact (by exact (show (0 ≤ x656.Lo ∧ x656.Lo ≤ 18446744073709551615) ∧ (0 ≤ x656.Hi ∧ x656.Hi ≤ 18446744073709551615) from ⟨(by omega), (by omega)⟩))
  replace hi1012 : (x620 = true) ∧ ((span_Right a3) = true) := ⟨(bNotF (bOrF hi1012).1), (bNotF (bOrF hi1012).2)⟩
  refine letR (p := fun r : TSpan => (0 ≤ r.Lo ∧ r.Lo ≤ 18446744073709551615) ∧ (0 ≤ r.Hi ∧ r.Hi ≤ 18446744073709551615)) fun x682 hx683 => ?_
  have hxx682_ : x682.size = 32 ∨ x682.size = 64 := by rw [← hx683]; exact span_over_size _ _ _
  have hx684 : (0 ≤ x682.a.Lo ∧ x682.a.Lo ≤ 18446744073709551615) ∧ (0 ≤ x682.a.Hi ∧ x682.a.Hi ≤ 18446744073709551615) ∧ (0 ≤ x682.b.Lo ∧ x682.b.Lo ≤ 18446744073709551615) ∧ (0 ≤ x682.b.Hi ∧ x682.b.Hi ≤ 18446744073709551615) ∧ (0 ≤ x682.most ∧ x682.most ≤ 18446744073709551615) ∧ (0 ≤ x682.size ∧ x682.size ≤ 18446744073709551615) := by rw [← hx683]; exact span_over_ok a1 a2 a3 ⟨(by omega), (by omega)⟩ ⟨(by omega), (by omega)⟩ 
  refine letR (p := fun r : TSpan => (0 ≤ r.Lo ∧ r.Lo ≤ 18446744073709551615) ∧ (0 ≤ r.Hi ∧ r.Hi ≤ 18446744073709551615)) fun x696 hx697 => ?_
  have hx698 : (0 ≤ x696.Lo ∧ x696.Lo ≤ 18446744073709551615) ∧ (0 ≤ x696.Hi ∧ x696.Hi ≤ 18446744073709551615) := by rw [← hx697]; exact span_work_and_ok x682 ⟨(by omega), (by omega), (by omega), (by omega), (by omega), (by omega)⟩ 
  exact (by exact (show (0 ≤ x696.Lo ∧ x696.Lo ≤ 18446744073709551615) ∧ (0 ≤ x696.Hi ∧ x696.Hi ≤ 18446744073709551615) from ⟨(by omega), (by omega)⟩))
 replace hi1011 : a0 ≠ (6 : Int) := (bEqF hi1011)
 refine iteR (p := fun r : TSpan => (0 ≤ r.Lo ∧ r.Lo ≤ 18446744073709551615) ∧ (0 ≤ r.Hi ∧ r.Hi ≤ 18446744073709551615)) (fun hi1013 => ?_) (fun hi1013 => ?_)
 ·
  replace hi1013 : a0 = (7 : Int) := (bEqT hi1013)
  refine letR (p := fun r : TSpan => (0 ≤ r.Lo ∧ r.Lo ≤ 18446744073709551615) ∧ (0 ≤ r.Hi ∧ r.Hi ≤ 18446744073709551615)) fun x724 _ => ?_
  refine iteR (p := fun r : TSpan => (0 ≤ r.Lo ∧ r.Lo ≤ 18446744073709551615) ∧ (0 ≤ r.Hi ∧ r.Hi ≤ 18446744073709551615)) (fun hi1014 => ?_) (fun hi1014 => ?_)
  ·
   replace hi1014 : (x724 = false) ∨ ((span_Right a3) = false) := (orMap (bOrT hi1014) (fun h => (bNotT h)) (fun h => (bNotT h)))
   refine letR (p := fun r : TSpan => (0 ≤ r.Lo ∧ r.Lo ≤ 18446744073709551615) ∧ (0 ≤ r.Hi ∧ r.Hi ≤ 18446744073709551615)) fun x760 hx761 => ?_
   have hx762 : (0 ≤ x760.Lo ∧ x760.Lo ≤ 18446744073709551615) ∧ (0 ≤ x760.Hi ∧ x760.Hi ≤ 18446744073709551615) := by rw [← hx761]; exact span_All_ok a1 
   exact (by exact (show (0 ≤ x760.Lo ∧ x760.Lo ≤ 18446744073709551615) ∧ (0 ≤ x760.Hi ∧ x760.Hi ≤ 18446744073709551615) from ⟨(by omega), (by omega)⟩))
  replace hi1014 : (x724 = true) ∧ ((span_Right a3) = true) := ⟨(bNotF (bOrF hi1014).1), (bNotF (bOrF hi1014).2)⟩
  refine letR (p := fun r : TSpan => (0 ≤ r.Lo ∧ r.Lo ≤ 18446744073709551615) ∧ (0 ≤ r.Hi ∧ r.Hi ≤ 18446744073709551615)) fun x786 hx787 => ?_
  have hxx786_ : x786.size = 32 ∨ x786.size = 64 := by rw [← hx787]; exact span_over_size _ _ _
  have hx788 : (0 ≤ x786.a.Lo ∧ x786.a.Lo ≤ 18446744073709551615) ∧ (0 ≤ x786.a.Hi ∧ x786.a.Hi ≤ 18446744073709551615) ∧ (0 ≤ x786.b.Lo ∧ x786.b.Lo ≤ 18446744073709551615) ∧ (0 ≤ x786.b.Hi ∧ x786.b.Hi ≤ 18446744073709551615) ∧ (0 ≤ x786.most ∧ x786.most ≤ 18446744073709551615) ∧ (0 ≤ x786.size ∧ x786.size ≤ 18446744073709551615) := by rw [← hx787]; exact span_over_ok a1 a2 a3 ⟨(by omega), (by omega)⟩ ⟨(by omega), (by omega)⟩ 
  refine letR (p := fun r : TSpan => (0 ≤ r.Lo ∧ r.Lo ≤ 18446744073709551615) ∧ (0 ≤ r.Hi ∧ r.Hi ≤ 18446744073709551615)) fun x800 hx801 => ?_
  have hx802 : (0 ≤ x800.Lo ∧ x800.Lo ≤ 18446744073709551615) ∧ (0 ≤ x800.Hi ∧ x800.Hi ≤ 18446744073709551615) := by rw [← hx801]; exact span_work_or_ok x786 ⟨(by omega), (by omega), (by omega), (by omega), (by omega), (by omega)⟩ 
  exact (by exact (show (0 ≤ x800.Lo ∧ x800.Lo ≤ 18446744073709551615) ∧ (0 ≤ x800.Hi ∧ x800.Hi ≤ 18446744073709551615) from ⟨(by omega), (by omega)⟩))
 replace hi1013 : a0 ≠ (7 : Int) := (bEqF hi1013)
 refine iteR (p := fun r : TSpan => (0 ≤ r.Lo ∧ r.Lo ≤ 18446744073709551615) ∧ (0 ≤ r.Hi ∧ r.Hi ≤ 18446744073709551615)) (fun hi1015 => ?_) (fun hi1015 => ?_)
 ·
  replace hi1015 : a0 = (8 : Int) := (bEqT hi1015)
  refine letR (p := fun r : TSpan => (0 ≤ r.Lo ∧ r.Lo ≤ 18446744073709551615) ∧ (0 ≤ r.Hi ∧ r.Hi ≤ 18446744073709551615)) fun x828 _ => ?_
  refine iteR (p := fun r : TSpan => (0 ≤ r.Lo ∧ r.Lo ≤ 18446744073709551615) ∧ (0 ≤ r.Hi ∧ r.Hi ≤ 18446744073709551615)) (fun hi1016 => ?_) (fun hi1016 => ?_)
  ·
   replace hi1016 : (x828 = false) ∨ ((span_Right a3) = false) := (orMap (bOrT hi1016) (fun h => (bNotT h)) (fun h => (bNotT h)))
   refine letR (p := fun r : TSpan => (0 ≤ r.Lo ∧ r.Lo ≤ 18446744073709551615) ∧ (0 ≤ r.Hi ∧ r.Hi ≤ 18446744073709551615)) fun x864 hx865 => ?_
   have hx866 : (0 ≤ x864.Lo ∧ x864.Lo ≤ 18446744073709551615) ∧ (0 ≤ x864.Hi ∧ x864.Hi ≤ 18446744073709551615) := by rw [← hx865]; exact span_All_ok a1 
   exact (by exact (show (0 ≤ x864.Lo ∧ x864.Lo ≤ 18446744073709551615) ∧ (0 ≤ x864.Hi ∧ x864.Hi ≤ 18446744073709551615) from ⟨(by omega), (by omega)⟩))
  replace hi1016 : (x828 = true) ∧ ((span_Right a3) = true) := ⟨(bNotF (bOrF hi1016).1), (bNotF (bOrF hi1016).2)⟩
  refine letR (p := fun r : TSpan => (0 ≤ r.Lo ∧ r.Lo ≤ 18446744073709551615) ∧ (0 ≤ r.Hi ∧ r.Hi ≤ 18446744073709551615)) fun x890 hx891 => ?_
  have hxx890_ : x890.size = 32 ∨ x890.size = 64 := by rw [← hx891]; exact span_over_size _ _ _
  have hx892 : (0 ≤ x890.a.Lo ∧ x890.a.Lo ≤ 18446744073709551615) ∧ (0 ≤ x890.a.Hi ∧ x890.a.Hi ≤ 18446744073709551615) ∧ (0 ≤ x890.b.Lo ∧ x890.b.Lo ≤ 18446744073709551615) ∧ (0 ≤ x890.b.Hi ∧ x890.b.Hi ≤ 18446744073709551615) ∧ (0 ≤ x890.most ∧ x890.most ≤ 18446744073709551615) ∧ (0 ≤ x890.size ∧ x890.size ≤ 18446744073709551615) := by rw [← hx891]; exact span_over_ok a1 a2 a3 ⟨(by omega), (by omega)⟩ ⟨(by omega), (by omega)⟩ 
  refine letR (p := fun r : TSpan => (0 ≤ r.Lo ∧ r.Lo ≤ 18446744073709551615) ∧ (0 ≤ r.Hi ∧ r.Hi ≤ 18446744073709551615)) fun x904 hx905 => ?_
  have hx906 : (0 ≤ x904.Lo ∧ x904.Lo ≤ 18446744073709551615) ∧ (0 ≤ x904.Hi ∧ x904.Hi ≤ 18446744073709551615) := by rw [← hx905]; exact span_work_xor_ok x890 ⟨(by omega), (by omega), (by omega), (by omega), (by omega), (by omega)⟩ 
  exact (by exact (show (0 ≤ x904.Lo ∧ x904.Lo ≤ 18446744073709551615) ∧ (0 ≤ x904.Hi ∧ x904.Hi ≤ 18446744073709551615) from ⟨(by omega), (by omega)⟩))
 replace hi1015 : a0 ≠ (8 : Int) := (bEqF hi1015)
 refine iteR (p := fun r : TSpan => (0 ≤ r.Lo ∧ r.Lo ≤ 18446744073709551615) ∧ (0 ≤ r.Hi ∧ r.Hi ≤ 18446744073709551615)) (fun hi1017 => ?_) (fun hi1017 => ?_)
 ·
  replace hi1017 : a0 = (9 : Int) := (bEqT hi1017)
  refine letR (p := fun r : TSpan => (0 ≤ r.Lo ∧ r.Lo ≤ 18446744073709551615) ∧ (0 ≤ r.Hi ∧ r.Hi ≤ 18446744073709551615)) fun x932 _ => ?_
  refine iteR (p := fun r : TSpan => (0 ≤ r.Lo ∧ r.Lo ≤ 18446744073709551615) ∧ (0 ≤ r.Hi ∧ r.Hi ≤ 18446744073709551615)) (fun hi1018 => ?_) (fun hi1018 => ?_)
  ·
   replace hi1018 : (x932 = false) ∨ ((span_Right a3) = false) := (orMap (bOrT hi1018) (fun h => (bNotT h)) (fun h => (bNotT h)))
   refine letR (p := fun r : TSpan => (0 ≤ r.Lo ∧ r.Lo ≤ 18446744073709551615) ∧ (0 ≤ r.Hi ∧ r.Hi ≤ 18446744073709551615)) fun x968 hx969 => ?_
   have hx970 : (0 ≤ x968.Lo ∧ x968.Lo ≤ 18446744073709551615) ∧ (0 ≤ x968.Hi ∧ x968.Hi ≤ 18446744073709551615) := by rw [← hx969]; exact span_All_ok a1 
   exact (by exact (show (0 ≤ x968.Lo ∧ x968.Lo ≤ 18446744073709551615) ∧ (0 ≤ x968.Hi ∧ x968.Hi ≤ 18446744073709551615) from ⟨(by omega), (by omega)⟩))
  replace hi1018 : (x932 = true) ∧ ((span_Right a3) = true) := ⟨(bNotF (bOrF hi1018).1), (bNotF (bOrF hi1018).2)⟩
  refine letR (p := fun r : TSpan => (0 ≤ r.Lo ∧ r.Lo ≤ 18446744073709551615) ∧ (0 ≤ r.Hi ∧ r.Hi ≤ 18446744073709551615)) fun x994 hx995 => ?_
  have hxx994_ : x994.size = 32 ∨ x994.size = 64 := by rw [← hx995]; exact span_over_size _ _ _
  have hx996 : (0 ≤ x994.a.Lo ∧ x994.a.Lo ≤ 18446744073709551615) ∧ (0 ≤ x994.a.Hi ∧ x994.a.Hi ≤ 18446744073709551615) ∧ (0 ≤ x994.b.Lo ∧ x994.b.Lo ≤ 18446744073709551615) ∧ (0 ≤ x994.b.Hi ∧ x994.b.Hi ≤ 18446744073709551615) ∧ (0 ≤ x994.most ∧ x994.most ≤ 18446744073709551615) ∧ (0 ≤ x994.size ∧ x994.size ≤ 18446744073709551615) := by rw [← hx995]; exact span_over_ok a1 a2 a3 ⟨(by omega), (by omega)⟩ ⟨(by omega), (by omega)⟩ 
  refine optR (p := fun r : TSpan => (0 ≤ r.Lo ∧ r.Lo ≤ 18446744073709551615) ∧ (0 ≤ r.Hi ∧ r.Hi ≤ 18446744073709551615)) (fun _ => ?_) (fun x1008 hx1009 => ?_)
  ·
   exact (by have : (0 ≤ (span_All a1).Lo ∧ (span_All a1).Lo ≤ 18446744073709551615) ∧ (0 ≤ (span_All a1).Hi ∧ (span_All a1).Hi ≤ 18446744073709551615) := span_All_ok a1 ; exact (show (0 ≤ (span_All a1).Lo ∧ (span_All a1).Lo ≤ 18446744073709551615) ∧ (0 ≤ (span_All a1).Hi ∧ (span_All a1).Hi ≤ 18446744073709551615) from ⟨(by omega), (by omega)⟩))
  have hx1010 : (0 ≤ x1008.Lo ∧ x1008.Lo ≤ 18446744073709551615) ∧ (0 ≤ x1008.Hi ∧ x1008.Hi ≤ 18446744073709551615) := by exact span_work_shl_ok x994 ⟨(by omega), (by omega), (by omega), (by omega), (by omega), (by omega)⟩ (by omega) _ hx1009
  exact (by exact (show (0 ≤ x1008.Lo ∧ x1008.Lo ≤ 18446744073709551615) ∧ (0 ≤ x1008.Hi ∧ x1008.Hi ≤ 18446744073709551615) from ⟨(by omega), (by omega)⟩))
 replace hi1017 : a0 ≠ (9 : Int) := (bEqF hi1017)
 refine iteR (p := fun r : TSpan => (0 ≤ r.Lo ∧ r.Lo ≤ 18446744073709551615) ∧ (0 ≤ r.Hi ∧ r.Hi ≤ 18446744073709551615)) (fun hi1019 => ?_) (fun hi1019 => ?_)
 ·
  replace hi1019 : a0 = (10 : Int) := (bEqT hi1019)
  refine letR (p := fun r : TSpan => (0 ≤ r.Lo ∧ r.Lo ≤ 18446744073709551615) ∧ (0 ≤ r.Hi ∧ r.Hi ≤ 18446744073709551615)) fun x1046 _ => ?_
  refine iteR (p := fun r : TSpan => (0 ≤ r.Lo ∧ r.Lo ≤ 18446744073709551615) ∧ (0 ≤ r.Hi ∧ r.Hi ≤ 18446744073709551615)) (fun hi1020 => ?_) (fun hi1020 => ?_)
  ·
   replace hi1020 : (x1046 = false) ∨ ((span_Right a3) = false) := (orMap (bOrT hi1020) (fun h => (bNotT h)) (fun h => (bNotT h)))
   refine letR (p := fun r : TSpan => (0 ≤ r.Lo ∧ r.Lo ≤ 18446744073709551615) ∧ (0 ≤ r.Hi ∧ r.Hi ≤ 18446744073709551615)) fun x1082 hx1083 => ?_
   have hx1084 : (0 ≤ x1082.Lo ∧ x1082.Lo ≤ 18446744073709551615) ∧ (0 ≤ x1082.Hi ∧ x1082.Hi ≤ 18446744073709551615) := by rw [← hx1083]; exact span_All_ok a1 
   exact (by exact (show (0 ≤ x1082.Lo ∧ x1082.Lo ≤ 18446744073709551615) ∧ (0 ≤ x1082.Hi ∧ x1082.Hi ≤ 18446744073709551615) from ⟨(by omega), (by omega)⟩))
  replace hi1020 : (x1046 = true) ∧ ((span_Right a3) = true) := ⟨(bNotF (bOrF hi1020).1), (bNotF (bOrF hi1020).2)⟩
  refine letR (p := fun r : TSpan => (0 ≤ r.Lo ∧ r.Lo ≤ 18446744073709551615) ∧ (0 ≤ r.Hi ∧ r.Hi ≤ 18446744073709551615)) fun x1108 hx1109 => ?_
  have hxx1108_ : x1108.size = 32 ∨ x1108.size = 64 := by rw [← hx1109]; exact span_over_size _ _ _
  have hx1110 : (0 ≤ x1108.a.Lo ∧ x1108.a.Lo ≤ 18446744073709551615) ∧ (0 ≤ x1108.a.Hi ∧ x1108.a.Hi ≤ 18446744073709551615) ∧ (0 ≤ x1108.b.Lo ∧ x1108.b.Lo ≤ 18446744073709551615) ∧ (0 ≤ x1108.b.Hi ∧ x1108.b.Hi ≤ 18446744073709551615) ∧ (0 ≤ x1108.most ∧ x1108.most ≤ 18446744073709551615) ∧ (0 ≤ x1108.size ∧ x1108.size ≤ 18446744073709551615) := by rw [← hx1109]; exact span_over_ok a1 a2 a3 ⟨(by omega), (by omega)⟩ ⟨(by omega), (by omega)⟩ 
  refine letR (p := fun r : TSpan => (0 ≤ r.Lo ∧ r.Lo ≤ 18446744073709551615) ∧ (0 ≤ r.Hi ∧ r.Hi ≤ 18446744073709551615)) fun x1122 hx1123 => ?_
  have hx1124 : (0 ≤ x1122.Lo ∧ x1122.Lo ≤ 18446744073709551615) ∧ (0 ≤ x1122.Hi ∧ x1122.Hi ≤ 18446744073709551615) := by rw [← hx1123]; exact span_work_shr_ok x1108 ⟨(by omega), (by omega), (by omega), (by omega), (by omega), (by omega)⟩ (by omega)
  exact (by exact (show (0 ≤ x1122.Lo ∧ x1122.Lo ≤ 18446744073709551615) ∧ (0 ≤ x1122.Hi ∧ x1122.Hi ≤ 18446744073709551615) from ⟨(by omega), (by omega)⟩))
 replace hi1019 : a0 ≠ (10 : Int) := (bEqF hi1019)
 refine iteR (p := fun r : TSpan => (0 ≤ r.Lo ∧ r.Lo ≤ 18446744073709551615) ∧ (0 ≤ r.Hi ∧ r.Hi ≤ 18446744073709551615)) (fun hi1021 => ?_) (fun hi1021 => ?_)
 ·
  replace hi1021 : a0 = (11 : Int) := (bEqT hi1021)
  refine letR (p := fun r : TSpan => (0 ≤ r.Lo ∧ r.Lo ≤ 18446744073709551615) ∧ (0 ≤ r.Hi ∧ r.Hi ≤ 18446744073709551615)) fun x1150 _ => ?_
  refine iteR (p := fun r : TSpan => (0 ≤ r.Lo ∧ r.Lo ≤ 18446744073709551615) ∧ (0 ≤ r.Hi ∧ r.Hi ≤ 18446744073709551615)) (fun hi1022 => ?_) (fun hi1022 => ?_)
  ·
   replace hi1022 : (x1150 = false) ∨ ((span_Right a3) = false) := (orMap (bOrT hi1022) (fun h => (bNotT h)) (fun h => (bNotT h)))
   refine letR (p := fun r : TSpan => (0 ≤ r.Lo ∧ r.Lo ≤ 18446744073709551615) ∧ (0 ≤ r.Hi ∧ r.Hi ≤ 18446744073709551615)) fun x1186 hx1187 => ?_
   have hx1188 : (0 ≤ x1186.Lo ∧ x1186.Lo ≤ 18446744073709551615) ∧ (0 ≤ x1186.Hi ∧ x1186.Hi ≤ 18446744073709551615) := by rw [← hx1187]; exact span_All_ok a1 
   exact (by exact (show (0 ≤ x1186.Lo ∧ x1186.Lo ≤ 18446744073709551615) ∧ (0 ≤ x1186.Hi ∧ x1186.Hi ≤ 18446744073709551615) from ⟨(by omega), (by omega)⟩))
  replace hi1022 : (x1150 = true) ∧ ((span_Right a3) = true) := ⟨(bNotF (bOrF hi1022).1), (bNotF (bOrF hi1022).2)⟩
  refine letR (p := fun r : TSpan => (0 ≤ r.Lo ∧ r.Lo ≤ 18446744073709551615) ∧ (0 ≤ r.Hi ∧ r.Hi ≤ 18446744073709551615)) fun x1212 hx1213 => ?_
  have hxx1212_ : x1212.size = 32 ∨ x1212.size = 64 := by rw [← hx1213]; exact span_over_size _ _ _
  have hx1214 : (0 ≤ x1212.a.Lo ∧ x1212.a.Lo ≤ 18446744073709551615) ∧ (0 ≤ x1212.a.Hi ∧ x1212.a.Hi ≤ 18446744073709551615) ∧ (0 ≤ x1212.b.Lo ∧ x1212.b.Lo ≤ 18446744073709551615) ∧ (0 ≤ x1212.b.Hi ∧ x1212.b.Hi ≤ 18446744073709551615) ∧ (0 ≤ x1212.most ∧ x1212.most ≤ 18446744073709551615) ∧ (0 ≤ x1212.size ∧ x1212.size ≤ 18446744073709551615) := by rw [← hx1213]; exact span_over_ok a1 a2 a3 ⟨(by omega), (by omega)⟩ ⟨(by omega), (by omega)⟩ 
  refine optR (p := fun r : TSpan => (0 ≤ r.Lo ∧ r.Lo ≤ 18446744073709551615) ∧ (0 ≤ r.Hi ∧ r.Hi ≤ 18446744073709551615)) (fun _ => ?_) (fun x1226 hx1227 => ?_)
  ·
   exact (by have : (0 ≤ (span_All a1).Lo ∧ (span_All a1).Lo ≤ 18446744073709551615) ∧ (0 ≤ (span_All a1).Hi ∧ (span_All a1).Hi ≤ 18446744073709551615) := span_All_ok a1 ; exact (show (0 ≤ (span_All a1).Lo ∧ (span_All a1).Lo ≤ 18446744073709551615) ∧ (0 ≤ (span_All a1).Hi ∧ (span_All a1).Hi ≤ 18446744073709551615) from ⟨(by omega), (by omega)⟩))
  have hx1228 : (0 ≤ x1226.Lo ∧ x1226.Lo ≤ 18446744073709551615) ∧ (0 ≤ x1226.Hi ∧ x1226.Hi ≤ 18446744073709551615) := by exact span_work_sar_ok x1212 ⟨(by omega), (by omega), (by omega), (by omega), (by omega), (by omega)⟩  _ hx1227
  exact (by exact (show (0 ≤ x1226.Lo ∧ x1226.Lo ≤ 18446744073709551615) ∧ (0 ≤ x1226.Hi ∧ x1226.Hi ≤ 18446744073709551615) from ⟨(by omega), (by omega)⟩))
 replace hi1021 : a0 ≠ (11 : Int) := (bEqF hi1021)
 refine iteR (p := fun r : TSpan => (0 ≤ r.Lo ∧ r.Lo ≤ 18446744073709551615) ∧ (0 ≤ r.Hi ∧ r.Hi ≤ 18446744073709551615)) (fun hi1023 => ?_) (fun hi1023 => ?_)
 ·
  replace hi1023 : a0 = (12 : Int) := (bEqT hi1023)
  refine letR (p := fun r : TSpan => (0 ≤ r.Lo ∧ r.Lo ≤ 18446744073709551615) ∧ (0 ≤ r.Hi ∧ r.Hi ≤ 18446744073709551615)) fun x1264 _ => ?_
  refine iteR (p := fun r : TSpan => (0 ≤ r.Lo ∧ r.Lo ≤ 18446744073709551615) ∧ (0 ≤ r.Hi ∧ r.Hi ≤ 18446744073709551615)) (fun hi1024 => ?_) (fun hi1024 => ?_)
  ·
   replace hi1024 : (x1264 = false) ∨ ((span_Right a3) = false) := (orMap (bOrT hi1024) (fun h => (bNotT h)) (fun h => (bNotT h)))
   refine letR (p := fun r : TSpan => (0 ≤ r.Lo ∧ r.Lo ≤ 18446744073709551615) ∧ (0 ≤ r.Hi ∧ r.Hi ≤ 18446744073709551615)) fun x1300 hx1301 => ?_
   have hx1302 : (0 ≤ x1300.Lo ∧ x1300.Lo ≤ 18446744073709551615) ∧ (0 ≤ x1300.Hi ∧ x1300.Hi ≤ 18446744073709551615) := by rw [← hx1301]; exact span_All_ok a1 
   exact (by exact (show (0 ≤ x1300.Lo ∧ x1300.Lo ≤ 18446744073709551615) ∧ (0 ≤ x1300.Hi ∧ x1300.Hi ≤ 18446744073709551615) from ⟨(by omega), (by omega)⟩))
  replace hi1024 : (x1264 = true) ∧ ((span_Right a3) = true) := ⟨(bNotF (bOrF hi1024).1), (bNotF (bOrF hi1024).2)⟩
  refine letR (p := fun r : TSpan => (0 ≤ r.Lo ∧ r.Lo ≤ 18446744073709551615) ∧ (0 ≤ r.Hi ∧ r.Hi ≤ 18446744073709551615)) fun x1326 hx1327 => ?_
  have hxx1326_ : x1326.size = 32 ∨ x1326.size = 64 := by rw [← hx1327]; exact span_over_size _ _ _
  have hx1328 : (0 ≤ x1326.a.Lo ∧ x1326.a.Lo ≤ 18446744073709551615) ∧ (0 ≤ x1326.a.Hi ∧ x1326.a.Hi ≤ 18446744073709551615) ∧ (0 ≤ x1326.b.Lo ∧ x1326.b.Lo ≤ 18446744073709551615) ∧ (0 ≤ x1326.b.Hi ∧ x1326.b.Hi ≤ 18446744073709551615) ∧ (0 ≤ x1326.most ∧ x1326.most ≤ 18446744073709551615) ∧ (0 ≤ x1326.size ∧ x1326.size ≤ 18446744073709551615) := by rw [← hx1327]; exact span_over_ok a1 a2 a3 ⟨(by omega), (by omega)⟩ ⟨(by omega), (by omega)⟩ 
  refine letR (p := fun r : TSpan => (0 ≤ r.Lo ∧ r.Lo ≤ 18446744073709551615) ∧ (0 ≤ r.Hi ∧ r.Hi ≤ 18446744073709551615)) fun x1340 hx1341 => ?_
  have hx1342 : (0 ≤ x1340.Lo ∧ x1340.Lo ≤ 18446744073709551615) ∧ (0 ≤ x1340.Hi ∧ x1340.Hi ≤ 18446744073709551615) := by rw [← hx1341]; exact span_work_mov_ok x1326 ⟨(by omega), (by omega), (by omega), (by omega), (by omega), (by omega)⟩ 
  exact (by exact (show (0 ≤ x1340.Lo ∧ x1340.Lo ≤ 18446744073709551615) ∧ (0 ≤ x1340.Hi ∧ x1340.Hi ≤ 18446744073709551615) from ⟨(by omega), (by omega)⟩))
 replace hi1023 : a0 ≠ (12 : Int) := (bEqF hi1023)
 refine iteR (p := fun r : TSpan => (0 ≤ r.Lo ∧ r.Lo ≤ 18446744073709551615) ∧ (0 ≤ r.Hi ∧ r.Hi ≤ 18446744073709551615)) (fun hi1025 => ?_) (fun hi1025 => ?_)
 ·
  replace hi1025 : a0 = (13 : Int) := (bEqT hi1025)
  refine letR (p := fun r : TSpan => (0 ≤ r.Lo ∧ r.Lo ≤ 18446744073709551615) ∧ (0 ≤ r.Hi ∧ r.Hi ≤ 18446744073709551615)) fun x1368 _ => ?_
  refine iteR (p := fun r : TSpan => (0 ≤ r.Lo ∧ r.Lo ≤ 18446744073709551615) ∧ (0 ≤ r.Hi ∧ r.Hi ≤ 18446744073709551615)) (fun hi1026 => ?_) (fun hi1026 => ?_)
  ·
   replace hi1026 : (x1368 = false) ∨ ((span_Right a3) = false) := (orMap (bOrT hi1026) (fun h => (bNotT h)) (fun h => (bNotT h)))
   refine letR (p := fun r : TSpan => (0 ≤ r.Lo ∧ r.Lo ≤ 18446744073709551615) ∧ (0 ≤ r.Hi ∧ r.Hi ≤ 18446744073709551615)) fun x1404 hx1405 => ?_
   have hx1406 : (0 ≤ x1404.Lo ∧ x1404.Lo ≤ 18446744073709551615) ∧ (0 ≤ x1404.Hi ∧ x1404.Hi ≤ 18446744073709551615) := by rw [← hx1405]; exact span_All_ok a1 
   exact (by exact (show (0 ≤ x1404.Lo ∧ x1404.Lo ≤ 18446744073709551615) ∧ (0 ≤ x1404.Hi ∧ x1404.Hi ≤ 18446744073709551615) from ⟨(by omega), (by omega)⟩))
  replace hi1026 : (x1368 = true) ∧ ((span_Right a3) = true) := ⟨(bNotF (bOrF hi1026).1), (bNotF (bOrF hi1026).2)⟩
  refine letR (p := fun r : TSpan => (0 ≤ r.Lo ∧ r.Lo ≤ 18446744073709551615) ∧ (0 ≤ r.Hi ∧ r.Hi ≤ 18446744073709551615)) fun x1430 hx1431 => ?_
  have hxx1430_ : x1430.size = 32 ∨ x1430.size = 64 := by rw [← hx1431]; exact span_over_size _ _ _
  have hx1432 : (0 ≤ x1430.a.Lo ∧ x1430.a.Lo ≤ 18446744073709551615) ∧ (0 ≤ x1430.a.Hi ∧ x1430.a.Hi ≤ 18446744073709551615) ∧ (0 ≤ x1430.b.Lo ∧ x1430.b.Lo ≤ 18446744073709551615) ∧ (0 ≤ x1430.b.Hi ∧ x1430.b.Hi ≤ 18446744073709551615) ∧ (0 ≤ x1430.most ∧ x1430.most ≤ 18446744073709551615) ∧ (0 ≤ x1430.size ∧ x1430.size ≤ 18446744073709551615) := by rw [← hx1431]; exact span_over_ok a1 a2 a3 ⟨(by omega), (by omega)⟩ ⟨(by omega), (by omega)⟩ 
  refine optR (p := fun r : TSpan => (0 ≤ r.Lo ∧ r.Lo ≤ 18446744073709551615) ∧ (0 ≤ r.Hi ∧ r.Hi ≤ 18446744073709551615)) (fun _ => ?_) (fun x1444 hx1445 => ?_)
  ·
   exact (by have : (0 ≤ (span_All a1).Lo ∧ (span_All a1).Lo ≤ 18446744073709551615) ∧ (0 ≤ (span_All a1).Hi ∧ (span_All a1).Hi ≤ 18446744073709551615) := span_All_ok a1 ; exact (show (0 ≤ (span_All a1).Lo ∧ (span_All a1).Lo ≤ 18446744073709551615) ∧ (0 ≤ (span_All a1).Hi ∧ (span_All a1).Hi ≤ 18446744073709551615) from ⟨(by omega), (by omega)⟩))
  have hx1446 : (0 ≤ x1444.Lo ∧ x1444.Lo ≤ 18446744073709551615) ∧ (0 ≤ x1444.Hi ∧ x1444.Hi ≤ 18446744073709551615) := by exact span_work_neg_ok x1430 ⟨(by omega), (by omega), (by omega), (by omega), (by omega), (by omega)⟩  _ hx1445
  exact (by exact (show (0 ≤ x1444.Lo ∧ x1444.Lo ≤ 18446744073709551615) ∧ (0 ≤ x1444.Hi ∧ x1444.Hi ≤ 18446744073709551615) from ⟨(by omega), (by omega)⟩))
 replace hi1025 : a0 ≠ (13 : Int) := (bEqF hi1025)
 refine letR (p := fun r : TSpan => (0 ≤ r.Lo ∧ r.Lo ≤ 18446744073709551615) ∧ (0 ≤ r.Hi ∧ r.Hi ≤ 18446744073709551615)) fun x1481 hx1482 => ?_
 have hx1483 : (0 ≤ x1481.Lo ∧ x1481.Lo ≤ 18446744073709551615) ∧ (0 ≤ x1481.Hi ∧ x1481.Hi ≤ 18446744073709551615) := by rw [← hx1482]; exact span_All_ok a1 
 exact (by exact (show (0 ≤ x1481.Lo ∧ x1481.Lo ≤ 18446744073709551615) ∧ (0 ≤ x1481.Hi ∧ x1481.Hi ≤ 18446744073709551615) from ⟨(by omega), (by omega)⟩))

set_option maxHeartbeats 4000000 in
theorem span_Do_any (a0 : Int) (a1 : Bool) (a2 : TSpan) (a3 : TSpan)   (w : World)  (_h_a0 : (0 ≤ a0 ∧ a0 ≤ 255)) (_h_a2 : (0 ≤ a2.Lo ∧ a2.Lo ≤ 18446744073709551615) ∧ (0 ≤ a2.Hi ∧ a2.Hi ≤ 18446744073709551615)) (_h_a3 : (0 ≤ a3.Lo ∧ a3.Lo ≤ 18446744073709551615) ∧ (0 ≤ a3.Hi ∧ a3.Hi ≤ 18446744073709551615))  : Calls Try.prog 19 #[.int .u8 a0, .bool a1, .agg #[.int .u64 a2.Lo, .int .u64 a2.Hi], .agg #[.int .u64 a3.Lo, .int .u64 a3.Hi]] w (RetV w (.agg #[.int .u64 (span_Do a0 a1 a2 a3).Lo, .int .u64 (span_Do a0 a1 a2 a3).Hi])) := by
 have hs := span_Do.eq_1 a0 a1 a2 a3
 refine calls_of_CW_defers Try.func19 rfl (n := 38) Try.ntmps19 (by kernel_rfl) [0, 1, 2, 3] (F := [(0, .int .u8 a0), (1, .bool a1), (2, .agg #[.int .u64 a2.Lo, .int .u64 a2.Hi]), (3, .agg #[.int .u64 a3.Lo, .int .u64 a3.Hi])]) (by kernel_rfl) ?_
 refine CW.seq fun K1 hK1 => ?_
 refine CW.region ?_
 refine WR.box (dst := some 5) (e := 4) (v := .bool a1) (by kernel_rfl) #[.bool a1] (by kernel_rfl) ?_
 intro g2 w3 hN4
 have hf6 : w.heap.size ≤ g2 := hN4.fresh
 have hfr8 := hN4.fresh
 have hc7 := hN4.chg
 have hz10 := hc7.size
 have hC9 := (Chg.refl [] w).pure hc7
 have hb5 := hN4.blk
 have hg11 := hb5.lt
 refine WR.box (dst := some 6) (e := 25) (v := .agg #[.int .u64 a2.Lo, .int .u64 a2.Hi]) (by kernel_rfl) #[.int .u64 a2.Lo, .int .u64 a2.Hi] (by kernel_rfl) ?_
 intro g12 w13 hN14
 have hl17 : g2 < g12 := Nat.lt_of_lt_of_le hb5.lt hN14.fresh
 have hf16 : w.heap.size ≤ g12 := Nat.le_trans hC9.size hN14.fresh
 have hfr19 := hN14.fresh
 have hc18 := hN14.chg
 have hz21 := hc18.size
 have hC20 := hC9.pure hc18
 have hb22 := hb5.pure hc18
 have hb15 := hN14.blk
 have hg23 := hb15.lt
 refine WR.box (dst := some 7) (e := 25) (v := .agg #[.int .u64 a3.Lo, .int .u64 a3.Hi]) (by kernel_rfl) #[.int .u64 a3.Lo, .int .u64 a3.Hi] (by kernel_rfl) ?_
 intro g24 w25 hN26
 have hl29 : g2 < g24 := Nat.lt_of_lt_of_le hb22.lt hN26.fresh
 have hl30 : g12 < g24 := Nat.lt_of_lt_of_le hb15.lt hN26.fresh
 have hf28 : w.heap.size ≤ g24 := Nat.le_trans hC20.size hN26.fresh
 have hfr32 := hN26.fresh
 have hc31 := hN26.chg
 have hz34 := hc31.size
 have hC33 := hC20.pure hc31
 have hb35 := hb22.pure hc31
 have hb36 := hb15.pure hc31
 have hb27 := hN26.blk
 have hg37 := hb27.lt
 refine WR.alloc (dst := some 8) (e := 25) (by kernel_rfl) #[.int .u64 0, .int .u64 0] (by kernel_rfl) ?_
 intro g38 w39 hN40
 have hl43 : g2 < g38 := Nat.lt_of_lt_of_le hb35.lt hN40.fresh
 have hl44 : g12 < g38 := Nat.lt_of_lt_of_le hb36.lt hN40.fresh
 have hl45 : g24 < g38 := Nat.lt_of_lt_of_le hb27.lt hN40.fresh
 have hf42 : w.heap.size ≤ g38 := Nat.le_trans hC33.size hN40.fresh
 have hfr47 := hN40.fresh
 have hc46 := hN40.chg
 have hz49 := hc46.size
 have hC48 := hC33.pure hc46
 have hb50 := hb35.pure hc46
 have hb51 := hb36.pure hc46
 have hb52 := hb27.pure hc46
 have hb41 := hN40.blk
 have hg53 := hb41.lt
 refine WR.fin (by kernel_rfl) ?_
 refine go hK1 ?_
 refine CW.seq fun K54 hK54 => ?_
 refine CW.region ?_
 refine WR.call (dst := some 12) (by kernel_rfl) (span_rules_any w39) ?_
 rintro _ w58 hc59 ⟨g55, rfl, hb56, hf57⟩
 have hz61 := hc59.size
 have hC60 := hC48.pure hc59
 have hb62 := hb50.pure hc59
 have hb63 := hb51.pure hc59
 have hb64 := hb52.pure hc59
 have hb65 := hb41.pure hc59
 have hg66 := hb56.lt
 refine WR.batch 1 [(5, pt g2 0), (6, pt g12 0), (7, pt g24 0), (8, pt g38 0), (12, .map (some g55)), (13, .int .u8 a0)] (by kernel_rfl) ?_
 rcases Bool.eq_false_or_eq_true (a0 == (1 : Int)) with hq67 | hq67
 ·
  have hs68 := ifT hq67 hs
  replace hq67 := bEqT hq67
  refine WR.valR (dst := some 14) (v := .tuple #[.func (.func 76) #[] #[], .bool true]) (w' := w58) (run_lookup (t := 73) (co := true) (kt := 22) (et := 71) (d := .int .u8) (x := .int .u8 a0) (z := .nilFunc) hb56 (by kernel_rfl) (by kernel_rfl) rfl (some (0, .func (.func 76) #[] #[])) (by rw [hq67]; rfl) (by kernel_rfl) _ (by kernel_rfl)) ?_
  refine WR.batch 5 [(5, pt g2 0), (6, pt g12 0), (7, pt g24 0), (8, pt g38 0), (9, .func (.func 76) #[] #[]), (10, .bool true)] (by kernel_rfl) ?_
  refine WR.fin (by kernel_rfl) ?_
  refine go hK54 ?_
  refine CW.seq fun K69 hK69 => ?_
  refine CW.seq fun K70 hK70 => ?_
  refine CW.region ?_
  refine WR.batch 3 [(5, pt g2 0), (6, pt g12 0), (7, pt g24 0), (8, pt g38 0), (9, .func (.func 76) #[] #[]), (19, .bool false)] (by kernel_rfl) ?_
  refine WR.load (dst := some 20) (t := 25) (o := 0) hb63 (by kernel_rfl) (.agg #[.int .u64 a2.Lo, .int .u64 a2.Hi]) (by kernel_rfl) ?_
  obtain ⟨x71, hx72⟩ : ∃ x, span_Right a2 = x := ⟨_, rfl⟩
  have hs73 := letS hx72 hs68
  refine WR.call (dst := some 21) (by kernel_rfl) (retE (g := fun r : Bool => (.bool r : Value)) hx72 (span_Right_any a2 w58  ⟨(by omega), (by omega)⟩ )) ?_
  rintro _ w74 hc75 rfl
  have hz77 := hc75.size
  have hC76 := hC60.pure hc75
  have hb78 := hb62.pure hc75
  have hb79 := hb63.pure hc75
  have hb80 := hb64.pure hc75
  have hb81 := hb65.pure hc75
  have hb82 := hb56.pure hc75
  refine WR.batch 3 [(5, pt g2 0), (6, pt g12 0), (7, pt g24 0), (8, pt g38 0), (9, .func (.func 76) #[] #[]), (24, .bool (!x71))] (by kernel_rfl) ?_
  refine WR.mergeW 12 [(5, pt g2 0), (6, pt g12 0), (7, pt g24 0), (8, pt g38 0), (9, .func (.func 76) #[] #[]), (28, .bool ((!x71) || (!(span_Right a3))))] (fun w' => Chg [] w74 w') (fun Q' => ?_) ?_
  ·
   cases hg83 : (!x71)
   ·
    replace hg83 : x71 = true := (bNotF hg83)
    intro hM84
    refine WR.load (dst := some 25) (t := 25) (o := 0) hb80 (by kernel_rfl) (.agg #[.int .u64 a3.Lo, .int .u64 a3.Hi]) (by kernel_rfl) ?_
    refine WR.call (dst := some 26) (by kernel_rfl) (span_Right_any a3 w74  ⟨(by omega), (by omega)⟩ ) ?_
    rintro _ w85 hc86 rfl
    have hz88 := hc86.size
    have hC87 := hC76.pure hc86
    have hb89 := hb78.pure hc86
    have hb90 := hb79.pure hc86
    have hb91 := hb80.pure hc86
    have hb92 := hb81.pure hc86
    have hb93 := hb82.pure hc86
    refine WR.batch 2 [(5, pt g2 0), (6, pt g12 0), (7, pt g24 0), (8, pt g38 0), (9, .func (.func 76) #[] #[]), (28, .bool (!(span_Right a3)))] (by kernel_rfl) ?_
    exact WR.keep [5, 6, 7, 8, 9, 28] (by kernel_rfl) (hM84 _ ((Chg.refl [] w74).pure hc86))
   ·
    replace hg83 : x71 = false := (bNotT hg83)
    intro hM84
    refine WR.batch 4 [(5, pt g2 0), (6, pt g12 0), (7, pt g24 0), (8, pt g38 0), (9, .func (.func 76) #[] #[]), (28, .bool true)] (by kernel_rfl) ?_
    exact WR.keep [5, 6, 7, 8, 9, 28] (by kernel_rfl) (hM84 _ (Chg.refl [] w74))
  intro w94 hc95
  have hz97 := hc95.size
  have hC96 := hC76.pure hc95
  have hb98 := hb78.pure hc95
  have hb99 := hb79.pure hc95
  have hb100 := hb80.pure hc95
  have hb101 := hb81.pure hc95
  have hb102 := hb82.pure hc95
  refine WR.fin (by kernel_rfl) ?_
  refine go hK70 ?_
  refine CW.cond (((!x71) || (!(span_Right a3)))) (by kernel_rfl) (fun ht103 => ?_) (fun ht103 => ?_)
  ·
   have hs104 := ifT ht103 hs73
   replace ht103 : (x71 = false) ∨ ((span_Right a3) = false) := (orMap (bOrT ht103) (fun h => (bNotT h)) (fun h => (bNotT h)))
   refine CW.seq fun K105 hK105 => ?_
   refine CW.region ?_
   refine WR.load (dst := some 29) (t := 4) (o := 0) hb98 (by kernel_rfl) (.bool a1) (by kernel_rfl) ?_
   obtain ⟨x106, hx107⟩ : ∃ x, span_All a1 = x := ⟨_, rfl⟩
   have hs109 := letS hx107 hs104
   have hx110 : (0 ≤ x106.Lo ∧ x106.Lo ≤ 18446744073709551615) ∧ (0 ≤ x106.Hi ∧ x106.Hi ≤ 18446744073709551615) := by rw [← hx107]; exact span_All_ok a1 
   refine WR.call (dst := some 30) (by kernel_rfl) (retE (g := fun r : TSpan => (.agg #[.int .u64 r.Lo, .int .u64 r.Hi] : Value)) hx107 (span_All_any a1 w94  )) ?_
   rintro _ w111 hc112 rfl
   have hz114 := hc112.size
   have hC113 := hC96.pure hc112
   have hb115 := hb98.pure hc112
   have hb116 := hb99.pure hc112
   have hb117 := hb100.pure hc112
   have hb118 := hb101.pure hc112
   have hb119 := hb102.pure hc112
   refine WR.store (t := 25) (o := 0) (v := .agg #[.int .u64 x106.Lo, .int .u64 x106.Hi]) hb118 (by kernel_rfl) #[.int .u64 x106.Lo, .int .u64 x106.Hi] (by kernel_rfl) ?_
   intro w120 hb121 hc122
   have hz124 := hc122.size
   have hC123 := hC113.step1 hc122 (by omega)
   have hb125 := hb115.chg1 hc122 (by omega)
   have hb126 := hb116.chg1 hc122 (by omega)
   have hb127 := hb117.chg1 hc122 (by omega)
   have hb128 := hb119.chg1 hc122 (by omega)
   refine WR.fin (by kernel_rfl) ?_
   refine go hK105 ?_
   refine CW.ret ?_
   exact retCD [.agg #[.int .u64 x106.Lo, .int .u64 x106.Hi]] (.agg #[.int .u64 x106.Lo, .int .u64 x106.Hi]) rfl ⟨resCell hb121 rfl (by kernel_rfl), trivial⟩ (⟨hC123, (congrArg (fun r : TSpan => (.agg #[.int .u64 r.Lo, .int .u64 r.Hi] : Value)) hs109).symm⟩)
  have hs129 := ifF ht103 hs73
  replace ht103 : (x71 = true) ∧ ((span_Right a3) = true) := ⟨(bNotF (bOrF ht103).1), (bNotF (bOrF ht103).2)⟩
  refine CW.skip ?_
  refine go hK69 ?_
  refine CW.seq fun K130 hK130 => ?_
  refine CW.region ?_
  refine WR.batch 1 [(5, pt g2 0), (6, pt g12 0), (7, pt g24 0), (8, pt g38 0), (9, .func (.func 76) #[] #[]), (31, .func (.func 54) #[] #[pt g2 0, pt g38 0])] (by kernel_rfl) ?_
  refine WR.defer (dst := none) (d := { target := .fn (.func 54) #[pt g2 0, pt g38 0], args := #[] }) (by kernel_rfl) ?_
  refine WR.fin (by kernel_rfl) ?_
  refine go hK130 ?_
  refine CW.seq fun K131 hK131 => ?_
  refine CW.region ?_
  refine WR.batch 1 [(5, pt g2 0), (6, pt g12 0), (7, pt g24 0), (8, pt g38 0), (32, .func (.func 76) #[] #[])] (by kernel_rfl) ?_
  refine WR.load (dst := some 33) (t := 4) (o := 0) hb98 (by kernel_rfl) (.bool a1) (by kernel_rfl) ?_
  refine WR.load (dst := some 34) (t := 25) (o := 0) hb99 (by kernel_rfl) (.agg #[.int .u64 a2.Lo, .int .u64 a2.Hi]) (by kernel_rfl) ?_
  refine WR.load (dst := some 35) (t := 25) (o := 0) hb100 (by kernel_rfl) (.agg #[.int .u64 a3.Lo, .int .u64 a3.Hi]) (by kernel_rfl) ?_
  obtain ⟨x132, hx133⟩ : ∃ x, span_over a1 a2 a3 = x := ⟨_, rfl⟩
  have hs135 := letS hx133 hs129
  have hxx132_ : x132.size = 32 ∨ x132.size = 64 := by rw [← hx133]; exact span_over_size _ _ _
  have hx136 : (0 ≤ x132.a.Lo ∧ x132.a.Lo ≤ 18446744073709551615) ∧ (0 ≤ x132.a.Hi ∧ x132.a.Hi ≤ 18446744073709551615) ∧ (0 ≤ x132.b.Lo ∧ x132.b.Lo ≤ 18446744073709551615) ∧ (0 ≤ x132.b.Hi ∧ x132.b.Hi ≤ 18446744073709551615) ∧ (0 ≤ x132.most ∧ x132.most ≤ 18446744073709551615) ∧ (0 ≤ x132.size ∧ x132.size ≤ 18446744073709551615) := by rw [← hx133]; exact span_over_ok a1 a2 a3 ⟨(by omega), (by omega)⟩ ⟨(by omega), (by omega)⟩ 
  refine WR.call (dst := some 36) (by kernel_rfl) (retE (g := fun r : Twork => (.agg #[.int .u64 r.a.Lo, .int .u64 r.a.Hi, .int .u64 r.b.Lo, .int .u64 r.b.Hi, .bool r.narrow, .int .u64 r.most, .int .u64 r.size] : Value)) hx133 (span_over_any a1 a2 a3 w94  ⟨(by omega), (by omega)⟩ ⟨(by omega), (by omega)⟩ )) ?_
  rintro _ w137 hc138 rfl
  have hz140 := hc138.size
  have hC139 := hC96.pure hc138
  have hb141 := hb98.pure hc138
  have hb142 := hb99.pure hc138
  have hb143 := hb100.pure hc138
  have hb144 := hb101.pure hc138
  have hb145 := hb102.pure hc138
  rcases hx147 : span_work_add x132 with _ | x146
  ·
   have hs151 := optN hx147 hs135
   refine WR.callX (dst := some 37) (by kernel_rfl) (retP_no (g := fun r : TSpan => (.agg #[.int .u64 r.Lo, .int .u64 r.Hi] : Value)) hx147 (span_work_add_any x132 w137  ⟨(by omega), (by omega), (by omega), (by omega), (by omega), (by omega)⟩ )) ?_
   intro w149 hc150
   have hz153 := hc150.size
   have hC152 := hC139.pure hc150
   have hb154 := hb141.pure hc150
   have hb155 := hb142.pure hc150
   have hb156 := hb143.pure hc150
   have hb157 := hb144.pure hc150
   have hb158 := hb145.pure hc150
   exact panicD (P := Try.prog) (fn := Try.f19) (d := { target := .fn (.func 54) #[pt g2 0, pt g38 0], args := #[] }) (fv := .func 54) (cap := #[pt g2 0, pt g38 0]) (f := 54) (args := #[pt g2 0, pt g38 0]) (M := fun w1 => Chg [g38] w149 w1 ∧ Blk w1 g2 #[.bool a1] 4 ∧ Blk w1 g38 #[.int .u64 (span_All a1).Lo, .int .u64 (span_All a1).Hi] 25) (x := .iface 76 (.agg #[])) rfl (by kernel_rfl) (span_Do_1_pan a1 (⟨(0 : Int), (0 : Int)⟩ : TSpan) g2 g38 w149 hb154 hb157 (by omega)) (fun _ => [.agg #[.int .u64 (span_All a1).Lo, .int .u64 (span_All a1).Hi]]) (fun w1 hM => ⟨resCell hM.2.2 rfl (by kernel_rfl), trivial⟩) (fun w1 hM => ⟨hC152.step hM.1 (by intro t ht; simp only [List.mem_cons, List.not_mem_nil, or_false] at ht; subst ht; first | exact .inr (by omega) | exact .inl (by simp)), (congrArg (fun r : TSpan => (.agg #[.int .u64 r.Lo, .int .u64 r.Hi] : Value)) hs151).symm⟩)
  have hs159 := optS hx147 hs135
  have hx160 : (0 ≤ x146.Lo ∧ x146.Lo ≤ 18446744073709551615) ∧ (0 ≤ x146.Hi ∧ x146.Hi ≤ 18446744073709551615) := by exact span_work_add_ok x132 ⟨(by omega), (by omega), (by omega), (by omega), (by omega), (by omega)⟩  _ hx147
  refine WR.call (dst := some 37) (by kernel_rfl) (retP_yes (g := fun r : TSpan => (.agg #[.int .u64 r.Lo, .int .u64 r.Hi] : Value)) hx147 (span_work_add_any x132 w137  ⟨(by omega), (by omega), (by omega), (by omega), (by omega), (by omega)⟩ )) ?_
  rintro _ w161 hc162 rfl
  have hz164 := hc162.size
  have hC163 := hC139.pure hc162
  have hb165 := hb141.pure hc162
  have hb166 := hb142.pure hc162
  have hb167 := hb143.pure hc162
  have hb168 := hb144.pure hc162
  have hb169 := hb145.pure hc162
  refine WR.store (t := 25) (o := 0) (v := .agg #[.int .u64 x146.Lo, .int .u64 x146.Hi]) hb168 (by kernel_rfl) #[.int .u64 x146.Lo, .int .u64 x146.Hi] (by kernel_rfl) ?_
  intro w170 hb171 hc172
  have hz174 := hc172.size
  have hC173 := hC163.step1 hc172 (by omega)
  have hb175 := hb165.chg1 hc172 (by omega)
  have hb176 := hb166.chg1 hc172 (by omega)
  have hb177 := hb167.chg1 hc172 (by omega)
  have hb178 := hb169.chg1 hc172 (by omega)
  refine WR.fin (by kernel_rfl) ?_
  refine go hK131 ?_
  refine CW.ret ?_
  exact retD (P := Try.prog) (fn := Try.f19) (d := { target := .fn (.func 54) #[pt g2 0, pt g38 0], args := #[] }) (fv := .func 54) (cap := #[pt g2 0, pt g38 0]) (f := 54) (args := #[pt g2 0, pt g38 0]) (M := fun w1 => Chg [] w170 w1) rfl (by kernel_rfl) (span_Do_1_ret g2 g38 w170) (fun _ => [.agg #[.int .u64 x146.Lo, .int .u64 x146.Hi]]) (fun w1 hM => ⟨resCell (hb171.pure hM) rfl (by kernel_rfl), trivial⟩) (fun w1 hM => ⟨(hC173.pure hM), (congrArg (fun r : TSpan => (.agg #[.int .u64 r.Lo, .int .u64 r.Hi] : Value)) hs159).symm⟩)
 have hs179 := ifF hq67 hs
 rcases Bool.eq_false_or_eq_true (a0 == (2 : Int)) with hq180 | hq180
 ·
  have hs181 := ifT hq180 hs179
  replace hq180 := bEqT hq180
  refine WR.valR (dst := some 14) (v := .tuple #[.func (.func 77) #[] #[], .bool true]) (w' := w58) (run_lookup (t := 73) (co := true) (kt := 22) (et := 71) (d := .int .u8) (x := .int .u8 a0) (z := .nilFunc) hb56 (by kernel_rfl) (by kernel_rfl) rfl (some (1, .func (.func 77) #[] #[])) (by rw [hq180]; rfl) (by kernel_rfl) _ (by kernel_rfl)) ?_
  refine WR.batch 5 [(5, pt g2 0), (6, pt g12 0), (7, pt g24 0), (8, pt g38 0), (9, .func (.func 77) #[] #[]), (10, .bool true)] (by kernel_rfl) ?_
  refine WR.fin (by kernel_rfl) ?_
  refine go hK54 ?_
  refine CW.seq fun K182 hK182 => ?_
  refine CW.seq fun K183 hK183 => ?_
  refine CW.region ?_
  refine WR.batch 3 [(5, pt g2 0), (6, pt g12 0), (7, pt g24 0), (8, pt g38 0), (9, .func (.func 77) #[] #[]), (19, .bool false)] (by kernel_rfl) ?_
  refine WR.load (dst := some 20) (t := 25) (o := 0) hb63 (by kernel_rfl) (.agg #[.int .u64 a2.Lo, .int .u64 a2.Hi]) (by kernel_rfl) ?_
  obtain ⟨x184, hx185⟩ : ∃ x, span_Right a2 = x := ⟨_, rfl⟩
  have hs186 := letS hx185 hs181
  refine WR.call (dst := some 21) (by kernel_rfl) (retE (g := fun r : Bool => (.bool r : Value)) hx185 (span_Right_any a2 w58  ⟨(by omega), (by omega)⟩ )) ?_
  rintro _ w187 hc188 rfl
  have hz190 := hc188.size
  have hC189 := hC60.pure hc188
  have hb191 := hb62.pure hc188
  have hb192 := hb63.pure hc188
  have hb193 := hb64.pure hc188
  have hb194 := hb65.pure hc188
  have hb195 := hb56.pure hc188
  refine WR.batch 3 [(5, pt g2 0), (6, pt g12 0), (7, pt g24 0), (8, pt g38 0), (9, .func (.func 77) #[] #[]), (24, .bool (!x184))] (by kernel_rfl) ?_
  refine WR.mergeW 12 [(5, pt g2 0), (6, pt g12 0), (7, pt g24 0), (8, pt g38 0), (9, .func (.func 77) #[] #[]), (28, .bool ((!x184) || (!(span_Right a3))))] (fun w' => Chg [] w187 w') (fun Q' => ?_) ?_
  ·
   cases hg196 : (!x184)
   ·
    replace hg196 : x184 = true := (bNotF hg196)
    intro hM197
    refine WR.load (dst := some 25) (t := 25) (o := 0) hb193 (by kernel_rfl) (.agg #[.int .u64 a3.Lo, .int .u64 a3.Hi]) (by kernel_rfl) ?_
    refine WR.call (dst := some 26) (by kernel_rfl) (span_Right_any a3 w187  ⟨(by omega), (by omega)⟩ ) ?_
    rintro _ w198 hc199 rfl
    have hz201 := hc199.size
    have hC200 := hC189.pure hc199
    have hb202 := hb191.pure hc199
    have hb203 := hb192.pure hc199
    have hb204 := hb193.pure hc199
    have hb205 := hb194.pure hc199
    have hb206 := hb195.pure hc199
    refine WR.batch 2 [(5, pt g2 0), (6, pt g12 0), (7, pt g24 0), (8, pt g38 0), (9, .func (.func 77) #[] #[]), (28, .bool (!(span_Right a3)))] (by kernel_rfl) ?_
    exact WR.keep [5, 6, 7, 8, 9, 28] (by kernel_rfl) (hM197 _ ((Chg.refl [] w187).pure hc199))
   ·
    replace hg196 : x184 = false := (bNotT hg196)
    intro hM197
    refine WR.batch 4 [(5, pt g2 0), (6, pt g12 0), (7, pt g24 0), (8, pt g38 0), (9, .func (.func 77) #[] #[]), (28, .bool true)] (by kernel_rfl) ?_
    exact WR.keep [5, 6, 7, 8, 9, 28] (by kernel_rfl) (hM197 _ (Chg.refl [] w187))
  intro w207 hc208
  have hz210 := hc208.size
  have hC209 := hC189.pure hc208
  have hb211 := hb191.pure hc208
  have hb212 := hb192.pure hc208
  have hb213 := hb193.pure hc208
  have hb214 := hb194.pure hc208
  have hb215 := hb195.pure hc208
  have hx216 : (0 ≤ (span_All a1).Lo ∧ (span_All a1).Lo ≤ 18446744073709551615) ∧ (0 ≤ (span_All a1).Hi ∧ (span_All a1).Hi ≤ 18446744073709551615) := span_All_ok a1 
  refine WR.fin (by kernel_rfl) ?_
  refine go hK183 ?_
  refine CW.cond (((!x184) || (!(span_Right a3)))) (by kernel_rfl) (fun ht217 => ?_) (fun ht217 => ?_)
  ·
   have hs218 := ifT ht217 hs186
   replace ht217 : (x184 = false) ∨ ((span_Right a3) = false) := (orMap (bOrT ht217) (fun h => (bNotT h)) (fun h => (bNotT h)))
   refine CW.seq fun K219 hK219 => ?_
   refine CW.region ?_
   refine WR.load (dst := some 29) (t := 4) (o := 0) hb211 (by kernel_rfl) (.bool a1) (by kernel_rfl) ?_
   obtain ⟨x220, hx221⟩ : ∃ x, span_All a1 = x := ⟨_, rfl⟩
   have hs223 := letS hx221 hs218
   have hx224 : (0 ≤ x220.Lo ∧ x220.Lo ≤ 18446744073709551615) ∧ (0 ≤ x220.Hi ∧ x220.Hi ≤ 18446744073709551615) := by rw [← hx221]; exact span_All_ok a1 
   refine WR.call (dst := some 30) (by kernel_rfl) (retE (g := fun r : TSpan => (.agg #[.int .u64 r.Lo, .int .u64 r.Hi] : Value)) hx221 (span_All_any a1 w207  )) ?_
   rintro _ w225 hc226 rfl
   have hz228 := hc226.size
   have hC227 := hC209.pure hc226
   have hb229 := hb211.pure hc226
   have hb230 := hb212.pure hc226
   have hb231 := hb213.pure hc226
   have hb232 := hb214.pure hc226
   have hb233 := hb215.pure hc226
   refine WR.store (t := 25) (o := 0) (v := .agg #[.int .u64 x220.Lo, .int .u64 x220.Hi]) hb232 (by kernel_rfl) #[.int .u64 x220.Lo, .int .u64 x220.Hi] (by kernel_rfl) ?_
   intro w234 hb235 hc236
   have hz238 := hc236.size
   have hC237 := hC227.step1 hc236 (by omega)
   have hb239 := hb229.chg1 hc236 (by omega)
   have hb240 := hb230.chg1 hc236 (by omega)
   have hb241 := hb231.chg1 hc236 (by omega)
   have hb242 := hb233.chg1 hc236 (by omega)
   refine WR.fin (by kernel_rfl) ?_
   refine go hK219 ?_
   refine CW.ret ?_
   exact retCD [.agg #[.int .u64 x220.Lo, .int .u64 x220.Hi]] (.agg #[.int .u64 x220.Lo, .int .u64 x220.Hi]) rfl ⟨resCell hb235 rfl (by kernel_rfl), trivial⟩ (⟨hC237, (congrArg (fun r : TSpan => (.agg #[.int .u64 r.Lo, .int .u64 r.Hi] : Value)) hs223).symm⟩)
  have hs243 := ifF ht217 hs186
  replace ht217 : (x184 = true) ∧ ((span_Right a3) = true) := ⟨(bNotF (bOrF ht217).1), (bNotF (bOrF ht217).2)⟩
  refine CW.skip ?_
  refine go hK182 ?_
  refine CW.seq fun K244 hK244 => ?_
  refine CW.region ?_
  refine WR.batch 1 [(5, pt g2 0), (6, pt g12 0), (7, pt g24 0), (8, pt g38 0), (9, .func (.func 77) #[] #[]), (31, .func (.func 54) #[] #[pt g2 0, pt g38 0])] (by kernel_rfl) ?_
  refine WR.defer (dst := none) (d := { target := .fn (.func 54) #[pt g2 0, pt g38 0], args := #[] }) (by kernel_rfl) ?_
  refine WR.fin (by kernel_rfl) ?_
  refine go hK244 ?_
  refine CW.seq fun K245 hK245 => ?_
  refine CW.region ?_
  refine WR.batch 1 [(5, pt g2 0), (6, pt g12 0), (7, pt g24 0), (8, pt g38 0), (32, .func (.func 77) #[] #[])] (by kernel_rfl) ?_
  refine WR.load (dst := some 33) (t := 4) (o := 0) hb211 (by kernel_rfl) (.bool a1) (by kernel_rfl) ?_
  refine WR.load (dst := some 34) (t := 25) (o := 0) hb212 (by kernel_rfl) (.agg #[.int .u64 a2.Lo, .int .u64 a2.Hi]) (by kernel_rfl) ?_
  refine WR.load (dst := some 35) (t := 25) (o := 0) hb213 (by kernel_rfl) (.agg #[.int .u64 a3.Lo, .int .u64 a3.Hi]) (by kernel_rfl) ?_
  obtain ⟨x246, hx247⟩ : ∃ x, span_over a1 a2 a3 = x := ⟨_, rfl⟩
  have hs249 := letS hx247 hs243
  have hxx246_ : x246.size = 32 ∨ x246.size = 64 := by rw [← hx247]; exact span_over_size _ _ _
  have hx250 : (0 ≤ x246.a.Lo ∧ x246.a.Lo ≤ 18446744073709551615) ∧ (0 ≤ x246.a.Hi ∧ x246.a.Hi ≤ 18446744073709551615) ∧ (0 ≤ x246.b.Lo ∧ x246.b.Lo ≤ 18446744073709551615) ∧ (0 ≤ x246.b.Hi ∧ x246.b.Hi ≤ 18446744073709551615) ∧ (0 ≤ x246.most ∧ x246.most ≤ 18446744073709551615) ∧ (0 ≤ x246.size ∧ x246.size ≤ 18446744073709551615) := by rw [← hx247]; exact span_over_ok a1 a2 a3 ⟨(by omega), (by omega)⟩ ⟨(by omega), (by omega)⟩ 
  refine WR.call (dst := some 36) (by kernel_rfl) (retE (g := fun r : Twork => (.agg #[.int .u64 r.a.Lo, .int .u64 r.a.Hi, .int .u64 r.b.Lo, .int .u64 r.b.Hi, .bool r.narrow, .int .u64 r.most, .int .u64 r.size] : Value)) hx247 (span_over_any a1 a2 a3 w207  ⟨(by omega), (by omega)⟩ ⟨(by omega), (by omega)⟩ )) ?_
  rintro _ w251 hc252 rfl
  have hz254 := hc252.size
  have hC253 := hC209.pure hc252
  have hb255 := hb211.pure hc252
  have hb256 := hb212.pure hc252
  have hb257 := hb213.pure hc252
  have hb258 := hb214.pure hc252
  have hb259 := hb215.pure hc252
  rcases hx261 : span_work_sub x246 with _ | x260
  ·
   have hs265 := optN hx261 hs249
   refine WR.callX (dst := some 37) (by kernel_rfl) (retP_no (g := fun r : TSpan => (.agg #[.int .u64 r.Lo, .int .u64 r.Hi] : Value)) hx261 (span_work_sub_any x246 w251  ⟨(by omega), (by omega), (by omega), (by omega), (by omega), (by omega)⟩ )) ?_
   intro w263 hc264
   have hz267 := hc264.size
   have hC266 := hC253.pure hc264
   have hb268 := hb255.pure hc264
   have hb269 := hb256.pure hc264
   have hb270 := hb257.pure hc264
   have hb271 := hb258.pure hc264
   have hb272 := hb259.pure hc264
   exact panicD (P := Try.prog) (fn := Try.f19) (d := { target := .fn (.func 54) #[pt g2 0, pt g38 0], args := #[] }) (fv := .func 54) (cap := #[pt g2 0, pt g38 0]) (f := 54) (args := #[pt g2 0, pt g38 0]) (M := fun w1 => Chg [g38] w263 w1 ∧ Blk w1 g2 #[.bool a1] 4 ∧ Blk w1 g38 #[.int .u64 (span_All a1).Lo, .int .u64 (span_All a1).Hi] 25) (x := .iface 76 (.agg #[])) rfl (by kernel_rfl) (span_Do_1_pan a1 (⟨(0 : Int), (0 : Int)⟩ : TSpan) g2 g38 w263 hb268 hb271 (by omega)) (fun _ => [.agg #[.int .u64 (span_All a1).Lo, .int .u64 (span_All a1).Hi]]) (fun w1 hM => ⟨resCell hM.2.2 rfl (by kernel_rfl), trivial⟩) (fun w1 hM => ⟨hC266.step hM.1 (by intro t ht; simp only [List.mem_cons, List.not_mem_nil, or_false] at ht; subst ht; first | exact .inr (by omega) | exact .inl (by simp)), (congrArg (fun r : TSpan => (.agg #[.int .u64 r.Lo, .int .u64 r.Hi] : Value)) hs265).symm⟩)
  have hs273 := optS hx261 hs249
  have hx274 : (0 ≤ x260.Lo ∧ x260.Lo ≤ 18446744073709551615) ∧ (0 ≤ x260.Hi ∧ x260.Hi ≤ 18446744073709551615) := by exact span_work_sub_ok x246 ⟨(by omega), (by omega), (by omega), (by omega), (by omega), (by omega)⟩  _ hx261
  refine WR.call (dst := some 37) (by kernel_rfl) (retP_yes (g := fun r : TSpan => (.agg #[.int .u64 r.Lo, .int .u64 r.Hi] : Value)) hx261 (span_work_sub_any x246 w251  ⟨(by omega), (by omega), (by omega), (by omega), (by omega), (by omega)⟩ )) ?_
  rintro _ w275 hc276 rfl
  have hz278 := hc276.size
  have hC277 := hC253.pure hc276
  have hb279 := hb255.pure hc276
  have hb280 := hb256.pure hc276
  have hb281 := hb257.pure hc276
  have hb282 := hb258.pure hc276
  have hb283 := hb259.pure hc276
  refine WR.store (t := 25) (o := 0) (v := .agg #[.int .u64 x260.Lo, .int .u64 x260.Hi]) hb282 (by kernel_rfl) #[.int .u64 x260.Lo, .int .u64 x260.Hi] (by kernel_rfl) ?_
  intro w284 hb285 hc286
  have hz288 := hc286.size
  have hC287 := hC277.step1 hc286 (by omega)
  have hb289 := hb279.chg1 hc286 (by omega)
  have hb290 := hb280.chg1 hc286 (by omega)
  have hb291 := hb281.chg1 hc286 (by omega)
  have hb292 := hb283.chg1 hc286 (by omega)
  refine WR.fin (by kernel_rfl) ?_
  refine go hK245 ?_
  refine CW.ret ?_
  exact retD (P := Try.prog) (fn := Try.f19) (d := { target := .fn (.func 54) #[pt g2 0, pt g38 0], args := #[] }) (fv := .func 54) (cap := #[pt g2 0, pt g38 0]) (f := 54) (args := #[pt g2 0, pt g38 0]) (M := fun w1 => Chg [] w284 w1) rfl (by kernel_rfl) (span_Do_1_ret g2 g38 w284) (fun _ => [.agg #[.int .u64 x260.Lo, .int .u64 x260.Hi]]) (fun w1 hM => ⟨resCell (hb285.pure hM) rfl (by kernel_rfl), trivial⟩) (fun w1 hM => ⟨(hC287.pure hM), (congrArg (fun r : TSpan => (.agg #[.int .u64 r.Lo, .int .u64 r.Hi] : Value)) hs273).symm⟩)
 have hs293 := ifF hq180 hs179
 rcases Bool.eq_false_or_eq_true (a0 == (3 : Int)) with hq294 | hq294
 ·
  have hs295 := ifT hq294 hs293
  replace hq294 := bEqT hq294
  refine WR.valR (dst := some 14) (v := .tuple #[.func (.func 78) #[] #[], .bool true]) (w' := w58) (run_lookup (t := 73) (co := true) (kt := 22) (et := 71) (d := .int .u8) (x := .int .u8 a0) (z := .nilFunc) hb56 (by kernel_rfl) (by kernel_rfl) rfl (some (2, .func (.func 78) #[] #[])) (by rw [hq294]; rfl) (by kernel_rfl) _ (by kernel_rfl)) ?_
  refine WR.batch 5 [(5, pt g2 0), (6, pt g12 0), (7, pt g24 0), (8, pt g38 0), (9, .func (.func 78) #[] #[]), (10, .bool true)] (by kernel_rfl) ?_
  refine WR.fin (by kernel_rfl) ?_
  refine go hK54 ?_
  refine CW.seq fun K296 hK296 => ?_
  refine CW.seq fun K297 hK297 => ?_
  refine CW.region ?_
  refine WR.batch 3 [(5, pt g2 0), (6, pt g12 0), (7, pt g24 0), (8, pt g38 0), (9, .func (.func 78) #[] #[]), (19, .bool false)] (by kernel_rfl) ?_
  refine WR.load (dst := some 20) (t := 25) (o := 0) hb63 (by kernel_rfl) (.agg #[.int .u64 a2.Lo, .int .u64 a2.Hi]) (by kernel_rfl) ?_
  obtain ⟨x298, hx299⟩ : ∃ x, span_Right a2 = x := ⟨_, rfl⟩
  have hs300 := letS hx299 hs295
  refine WR.call (dst := some 21) (by kernel_rfl) (retE (g := fun r : Bool => (.bool r : Value)) hx299 (span_Right_any a2 w58  ⟨(by omega), (by omega)⟩ )) ?_
  rintro _ w301 hc302 rfl
  have hz304 := hc302.size
  have hC303 := hC60.pure hc302
  have hb305 := hb62.pure hc302
  have hb306 := hb63.pure hc302
  have hb307 := hb64.pure hc302
  have hb308 := hb65.pure hc302
  have hb309 := hb56.pure hc302
  refine WR.batch 3 [(5, pt g2 0), (6, pt g12 0), (7, pt g24 0), (8, pt g38 0), (9, .func (.func 78) #[] #[]), (24, .bool (!x298))] (by kernel_rfl) ?_
  refine WR.mergeW 12 [(5, pt g2 0), (6, pt g12 0), (7, pt g24 0), (8, pt g38 0), (9, .func (.func 78) #[] #[]), (28, .bool ((!x298) || (!(span_Right a3))))] (fun w' => Chg [] w301 w') (fun Q' => ?_) ?_
  ·
   cases hg310 : (!x298)
   ·
    replace hg310 : x298 = true := (bNotF hg310)
    intro hM311
    refine WR.load (dst := some 25) (t := 25) (o := 0) hb307 (by kernel_rfl) (.agg #[.int .u64 a3.Lo, .int .u64 a3.Hi]) (by kernel_rfl) ?_
    refine WR.call (dst := some 26) (by kernel_rfl) (span_Right_any a3 w301  ⟨(by omega), (by omega)⟩ ) ?_
    rintro _ w312 hc313 rfl
    have hz315 := hc313.size
    have hC314 := hC303.pure hc313
    have hb316 := hb305.pure hc313
    have hb317 := hb306.pure hc313
    have hb318 := hb307.pure hc313
    have hb319 := hb308.pure hc313
    have hb320 := hb309.pure hc313
    refine WR.batch 2 [(5, pt g2 0), (6, pt g12 0), (7, pt g24 0), (8, pt g38 0), (9, .func (.func 78) #[] #[]), (28, .bool (!(span_Right a3)))] (by kernel_rfl) ?_
    exact WR.keep [5, 6, 7, 8, 9, 28] (by kernel_rfl) (hM311 _ ((Chg.refl [] w301).pure hc313))
   ·
    replace hg310 : x298 = false := (bNotT hg310)
    intro hM311
    refine WR.batch 4 [(5, pt g2 0), (6, pt g12 0), (7, pt g24 0), (8, pt g38 0), (9, .func (.func 78) #[] #[]), (28, .bool true)] (by kernel_rfl) ?_
    exact WR.keep [5, 6, 7, 8, 9, 28] (by kernel_rfl) (hM311 _ (Chg.refl [] w301))
  intro w321 hc322
  have hz324 := hc322.size
  have hC323 := hC303.pure hc322
  have hb325 := hb305.pure hc322
  have hb326 := hb306.pure hc322
  have hb327 := hb307.pure hc322
  have hb328 := hb308.pure hc322
  have hb329 := hb309.pure hc322
  have hx330 : (0 ≤ (span_All a1).Lo ∧ (span_All a1).Lo ≤ 18446744073709551615) ∧ (0 ≤ (span_All a1).Hi ∧ (span_All a1).Hi ≤ 18446744073709551615) := span_All_ok a1 
  refine WR.fin (by kernel_rfl) ?_
  refine go hK297 ?_
  refine CW.cond (((!x298) || (!(span_Right a3)))) (by kernel_rfl) (fun ht331 => ?_) (fun ht331 => ?_)
  ·
   have hs332 := ifT ht331 hs300
   replace ht331 : (x298 = false) ∨ ((span_Right a3) = false) := (orMap (bOrT ht331) (fun h => (bNotT h)) (fun h => (bNotT h)))
   refine CW.seq fun K333 hK333 => ?_
   refine CW.region ?_
   refine WR.load (dst := some 29) (t := 4) (o := 0) hb325 (by kernel_rfl) (.bool a1) (by kernel_rfl) ?_
   obtain ⟨x334, hx335⟩ : ∃ x, span_All a1 = x := ⟨_, rfl⟩
   have hs337 := letS hx335 hs332
   have hx338 : (0 ≤ x334.Lo ∧ x334.Lo ≤ 18446744073709551615) ∧ (0 ≤ x334.Hi ∧ x334.Hi ≤ 18446744073709551615) := by rw [← hx335]; exact span_All_ok a1 
   refine WR.call (dst := some 30) (by kernel_rfl) (retE (g := fun r : TSpan => (.agg #[.int .u64 r.Lo, .int .u64 r.Hi] : Value)) hx335 (span_All_any a1 w321  )) ?_
   rintro _ w339 hc340 rfl
   have hz342 := hc340.size
   have hC341 := hC323.pure hc340
   have hb343 := hb325.pure hc340
   have hb344 := hb326.pure hc340
   have hb345 := hb327.pure hc340
   have hb346 := hb328.pure hc340
   have hb347 := hb329.pure hc340
   refine WR.store (t := 25) (o := 0) (v := .agg #[.int .u64 x334.Lo, .int .u64 x334.Hi]) hb346 (by kernel_rfl) #[.int .u64 x334.Lo, .int .u64 x334.Hi] (by kernel_rfl) ?_
   intro w348 hb349 hc350
   have hz352 := hc350.size
   have hC351 := hC341.step1 hc350 (by omega)
   have hb353 := hb343.chg1 hc350 (by omega)
   have hb354 := hb344.chg1 hc350 (by omega)
   have hb355 := hb345.chg1 hc350 (by omega)
   have hb356 := hb347.chg1 hc350 (by omega)
   refine WR.fin (by kernel_rfl) ?_
   refine go hK333 ?_
   refine CW.ret ?_
   exact retCD [.agg #[.int .u64 x334.Lo, .int .u64 x334.Hi]] (.agg #[.int .u64 x334.Lo, .int .u64 x334.Hi]) rfl ⟨resCell hb349 rfl (by kernel_rfl), trivial⟩ (⟨hC351, (congrArg (fun r : TSpan => (.agg #[.int .u64 r.Lo, .int .u64 r.Hi] : Value)) hs337).symm⟩)
  have hs357 := ifF ht331 hs300
  replace ht331 : (x298 = true) ∧ ((span_Right a3) = true) := ⟨(bNotF (bOrF ht331).1), (bNotF (bOrF ht331).2)⟩
  refine CW.skip ?_
  refine go hK296 ?_
  refine CW.seq fun K358 hK358 => ?_
  refine CW.region ?_
  refine WR.batch 1 [(5, pt g2 0), (6, pt g12 0), (7, pt g24 0), (8, pt g38 0), (9, .func (.func 78) #[] #[]), (31, .func (.func 54) #[] #[pt g2 0, pt g38 0])] (by kernel_rfl) ?_
  refine WR.defer (dst := none) (d := { target := .fn (.func 54) #[pt g2 0, pt g38 0], args := #[] }) (by kernel_rfl) ?_
  refine WR.fin (by kernel_rfl) ?_
  refine go hK358 ?_
  refine CW.seq fun K359 hK359 => ?_
  refine CW.region ?_
  refine WR.batch 1 [(5, pt g2 0), (6, pt g12 0), (7, pt g24 0), (8, pt g38 0), (32, .func (.func 78) #[] #[])] (by kernel_rfl) ?_
  refine WR.load (dst := some 33) (t := 4) (o := 0) hb325 (by kernel_rfl) (.bool a1) (by kernel_rfl) ?_
  refine WR.load (dst := some 34) (t := 25) (o := 0) hb326 (by kernel_rfl) (.agg #[.int .u64 a2.Lo, .int .u64 a2.Hi]) (by kernel_rfl) ?_
  refine WR.load (dst := some 35) (t := 25) (o := 0) hb327 (by kernel_rfl) (.agg #[.int .u64 a3.Lo, .int .u64 a3.Hi]) (by kernel_rfl) ?_
  obtain ⟨x360, hx361⟩ : ∃ x, span_over a1 a2 a3 = x := ⟨_, rfl⟩
  have hs363 := letS hx361 hs357
  have hxx360_ : x360.size = 32 ∨ x360.size = 64 := by rw [← hx361]; exact span_over_size _ _ _
  have hx364 : (0 ≤ x360.a.Lo ∧ x360.a.Lo ≤ 18446744073709551615) ∧ (0 ≤ x360.a.Hi ∧ x360.a.Hi ≤ 18446744073709551615) ∧ (0 ≤ x360.b.Lo ∧ x360.b.Lo ≤ 18446744073709551615) ∧ (0 ≤ x360.b.Hi ∧ x360.b.Hi ≤ 18446744073709551615) ∧ (0 ≤ x360.most ∧ x360.most ≤ 18446744073709551615) ∧ (0 ≤ x360.size ∧ x360.size ≤ 18446744073709551615) := by rw [← hx361]; exact span_over_ok a1 a2 a3 ⟨(by omega), (by omega)⟩ ⟨(by omega), (by omega)⟩ 
  refine WR.call (dst := some 36) (by kernel_rfl) (retE (g := fun r : Twork => (.agg #[.int .u64 r.a.Lo, .int .u64 r.a.Hi, .int .u64 r.b.Lo, .int .u64 r.b.Hi, .bool r.narrow, .int .u64 r.most, .int .u64 r.size] : Value)) hx361 (span_over_any a1 a2 a3 w321  ⟨(by omega), (by omega)⟩ ⟨(by omega), (by omega)⟩ )) ?_
  rintro _ w365 hc366 rfl
  have hz368 := hc366.size
  have hC367 := hC323.pure hc366
  have hb369 := hb325.pure hc366
  have hb370 := hb326.pure hc366
  have hb371 := hb327.pure hc366
  have hb372 := hb328.pure hc366
  have hb373 := hb329.pure hc366
  rcases hx375 : span_work_mul x360 with _ | x374
  ·
   have hs379 := optN hx375 hs363
   refine WR.callX (dst := some 37) (by kernel_rfl) (retP_no (g := fun r : TSpan => (.agg #[.int .u64 r.Lo, .int .u64 r.Hi] : Value)) hx375 (span_work_mul_any x360 w365  ⟨(by omega), (by omega), (by omega), (by omega), (by omega), (by omega)⟩ )) ?_
   intro w377 hc378
   have hz381 := hc378.size
   have hC380 := hC367.pure hc378
   have hb382 := hb369.pure hc378
   have hb383 := hb370.pure hc378
   have hb384 := hb371.pure hc378
   have hb385 := hb372.pure hc378
   have hb386 := hb373.pure hc378
   exact panicD (P := Try.prog) (fn := Try.f19) (d := { target := .fn (.func 54) #[pt g2 0, pt g38 0], args := #[] }) (fv := .func 54) (cap := #[pt g2 0, pt g38 0]) (f := 54) (args := #[pt g2 0, pt g38 0]) (M := fun w1 => Chg [g38] w377 w1 ∧ Blk w1 g2 #[.bool a1] 4 ∧ Blk w1 g38 #[.int .u64 (span_All a1).Lo, .int .u64 (span_All a1).Hi] 25) (x := .iface 76 (.agg #[])) rfl (by kernel_rfl) (span_Do_1_pan a1 (⟨(0 : Int), (0 : Int)⟩ : TSpan) g2 g38 w377 hb382 hb385 (by omega)) (fun _ => [.agg #[.int .u64 (span_All a1).Lo, .int .u64 (span_All a1).Hi]]) (fun w1 hM => ⟨resCell hM.2.2 rfl (by kernel_rfl), trivial⟩) (fun w1 hM => ⟨hC380.step hM.1 (by intro t ht; simp only [List.mem_cons, List.not_mem_nil, or_false] at ht; subst ht; first | exact .inr (by omega) | exact .inl (by simp)), (congrArg (fun r : TSpan => (.agg #[.int .u64 r.Lo, .int .u64 r.Hi] : Value)) hs379).symm⟩)
  have hs387 := optS hx375 hs363
  have hx388 : (0 ≤ x374.Lo ∧ x374.Lo ≤ 18446744073709551615) ∧ (0 ≤ x374.Hi ∧ x374.Hi ≤ 18446744073709551615) := by exact span_work_mul_ok x360 ⟨(by omega), (by omega), (by omega), (by omega), (by omega), (by omega)⟩  _ hx375
  refine WR.call (dst := some 37) (by kernel_rfl) (retP_yes (g := fun r : TSpan => (.agg #[.int .u64 r.Lo, .int .u64 r.Hi] : Value)) hx375 (span_work_mul_any x360 w365  ⟨(by omega), (by omega), (by omega), (by omega), (by omega), (by omega)⟩ )) ?_
  rintro _ w389 hc390 rfl
  have hz392 := hc390.size
  have hC391 := hC367.pure hc390
  have hb393 := hb369.pure hc390
  have hb394 := hb370.pure hc390
  have hb395 := hb371.pure hc390
  have hb396 := hb372.pure hc390
  have hb397 := hb373.pure hc390
  refine WR.store (t := 25) (o := 0) (v := .agg #[.int .u64 x374.Lo, .int .u64 x374.Hi]) hb396 (by kernel_rfl) #[.int .u64 x374.Lo, .int .u64 x374.Hi] (by kernel_rfl) ?_
  intro w398 hb399 hc400
  have hz402 := hc400.size
  have hC401 := hC391.step1 hc400 (by omega)
  have hb403 := hb393.chg1 hc400 (by omega)
  have hb404 := hb394.chg1 hc400 (by omega)
  have hb405 := hb395.chg1 hc400 (by omega)
  have hb406 := hb397.chg1 hc400 (by omega)
  refine WR.fin (by kernel_rfl) ?_
  refine go hK359 ?_
  refine CW.ret ?_
  exact retD (P := Try.prog) (fn := Try.f19) (d := { target := .fn (.func 54) #[pt g2 0, pt g38 0], args := #[] }) (fv := .func 54) (cap := #[pt g2 0, pt g38 0]) (f := 54) (args := #[pt g2 0, pt g38 0]) (M := fun w1 => Chg [] w398 w1) rfl (by kernel_rfl) (span_Do_1_ret g2 g38 w398) (fun _ => [.agg #[.int .u64 x374.Lo, .int .u64 x374.Hi]]) (fun w1 hM => ⟨resCell (hb399.pure hM) rfl (by kernel_rfl), trivial⟩) (fun w1 hM => ⟨(hC401.pure hM), (congrArg (fun r : TSpan => (.agg #[.int .u64 r.Lo, .int .u64 r.Hi] : Value)) hs387).symm⟩)
 have hs407 := ifF hq294 hs293
 rcases Bool.eq_false_or_eq_true (a0 == (4 : Int)) with hq408 | hq408
 ·
  have hs409 := ifT hq408 hs407
  replace hq408 := bEqT hq408
  refine WR.valR (dst := some 14) (v := .tuple #[.func (.func 79) #[] #[], .bool true]) (w' := w58) (run_lookup (t := 73) (co := true) (kt := 22) (et := 71) (d := .int .u8) (x := .int .u8 a0) (z := .nilFunc) hb56 (by kernel_rfl) (by kernel_rfl) rfl (some (3, .func (.func 79) #[] #[])) (by rw [hq408]; rfl) (by kernel_rfl) _ (by kernel_rfl)) ?_
  refine WR.batch 5 [(5, pt g2 0), (6, pt g12 0), (7, pt g24 0), (8, pt g38 0), (9, .func (.func 79) #[] #[]), (10, .bool true)] (by kernel_rfl) ?_
  refine WR.fin (by kernel_rfl) ?_
  refine go hK54 ?_
  refine CW.seq fun K410 hK410 => ?_
  refine CW.seq fun K411 hK411 => ?_
  refine CW.region ?_
  refine WR.batch 3 [(5, pt g2 0), (6, pt g12 0), (7, pt g24 0), (8, pt g38 0), (9, .func (.func 79) #[] #[]), (19, .bool false)] (by kernel_rfl) ?_
  refine WR.load (dst := some 20) (t := 25) (o := 0) hb63 (by kernel_rfl) (.agg #[.int .u64 a2.Lo, .int .u64 a2.Hi]) (by kernel_rfl) ?_
  obtain ⟨x412, hx413⟩ : ∃ x, span_Right a2 = x := ⟨_, rfl⟩
  have hs414 := letS hx413 hs409
  refine WR.call (dst := some 21) (by kernel_rfl) (retE (g := fun r : Bool => (.bool r : Value)) hx413 (span_Right_any a2 w58  ⟨(by omega), (by omega)⟩ )) ?_
  rintro _ w415 hc416 rfl
  have hz418 := hc416.size
  have hC417 := hC60.pure hc416
  have hb419 := hb62.pure hc416
  have hb420 := hb63.pure hc416
  have hb421 := hb64.pure hc416
  have hb422 := hb65.pure hc416
  have hb423 := hb56.pure hc416
  refine WR.batch 3 [(5, pt g2 0), (6, pt g12 0), (7, pt g24 0), (8, pt g38 0), (9, .func (.func 79) #[] #[]), (24, .bool (!x412))] (by kernel_rfl) ?_
  refine WR.mergeW 12 [(5, pt g2 0), (6, pt g12 0), (7, pt g24 0), (8, pt g38 0), (9, .func (.func 79) #[] #[]), (28, .bool ((!x412) || (!(span_Right a3))))] (fun w' => Chg [] w415 w') (fun Q' => ?_) ?_
  ·
   cases hg424 : (!x412)
   ·
    replace hg424 : x412 = true := (bNotF hg424)
    intro hM425
    refine WR.load (dst := some 25) (t := 25) (o := 0) hb421 (by kernel_rfl) (.agg #[.int .u64 a3.Lo, .int .u64 a3.Hi]) (by kernel_rfl) ?_
    refine WR.call (dst := some 26) (by kernel_rfl) (span_Right_any a3 w415  ⟨(by omega), (by omega)⟩ ) ?_
    rintro _ w426 hc427 rfl
    have hz429 := hc427.size
    have hC428 := hC417.pure hc427
    have hb430 := hb419.pure hc427
    have hb431 := hb420.pure hc427
    have hb432 := hb421.pure hc427
    have hb433 := hb422.pure hc427
    have hb434 := hb423.pure hc427
    refine WR.batch 2 [(5, pt g2 0), (6, pt g12 0), (7, pt g24 0), (8, pt g38 0), (9, .func (.func 79) #[] #[]), (28, .bool (!(span_Right a3)))] (by kernel_rfl) ?_
    exact WR.keep [5, 6, 7, 8, 9, 28] (by kernel_rfl) (hM425 _ ((Chg.refl [] w415).pure hc427))
   ·
    replace hg424 : x412 = false := (bNotT hg424)
    intro hM425
    refine WR.batch 4 [(5, pt g2 0), (6, pt g12 0), (7, pt g24 0), (8, pt g38 0), (9, .func (.func 79) #[] #[]), (28, .bool true)] (by kernel_rfl) ?_
    exact WR.keep [5, 6, 7, 8, 9, 28] (by kernel_rfl) (hM425 _ (Chg.refl [] w415))
  intro w435 hc436
  have hz438 := hc436.size
  have hC437 := hC417.pure hc436
  have hb439 := hb419.pure hc436
  have hb440 := hb420.pure hc436
  have hb441 := hb421.pure hc436
  have hb442 := hb422.pure hc436
  have hb443 := hb423.pure hc436
  have hx444 : (0 ≤ (span_All a1).Lo ∧ (span_All a1).Lo ≤ 18446744073709551615) ∧ (0 ≤ (span_All a1).Hi ∧ (span_All a1).Hi ≤ 18446744073709551615) := span_All_ok a1 
  refine WR.fin (by kernel_rfl) ?_
  refine go hK411 ?_
  refine CW.cond (((!x412) || (!(span_Right a3)))) (by kernel_rfl) (fun ht445 => ?_) (fun ht445 => ?_)
  ·
   have hs446 := ifT ht445 hs414
   replace ht445 : (x412 = false) ∨ ((span_Right a3) = false) := (orMap (bOrT ht445) (fun h => (bNotT h)) (fun h => (bNotT h)))
   refine CW.seq fun K447 hK447 => ?_
   refine CW.region ?_
   refine WR.load (dst := some 29) (t := 4) (o := 0) hb439 (by kernel_rfl) (.bool a1) (by kernel_rfl) ?_
   obtain ⟨x448, hx449⟩ : ∃ x, span_All a1 = x := ⟨_, rfl⟩
   have hs451 := letS hx449 hs446
   have hx452 : (0 ≤ x448.Lo ∧ x448.Lo ≤ 18446744073709551615) ∧ (0 ≤ x448.Hi ∧ x448.Hi ≤ 18446744073709551615) := by rw [← hx449]; exact span_All_ok a1 
   refine WR.call (dst := some 30) (by kernel_rfl) (retE (g := fun r : TSpan => (.agg #[.int .u64 r.Lo, .int .u64 r.Hi] : Value)) hx449 (span_All_any a1 w435  )) ?_
   rintro _ w453 hc454 rfl
   have hz456 := hc454.size
   have hC455 := hC437.pure hc454
   have hb457 := hb439.pure hc454
   have hb458 := hb440.pure hc454
   have hb459 := hb441.pure hc454
   have hb460 := hb442.pure hc454
   have hb461 := hb443.pure hc454
   refine WR.store (t := 25) (o := 0) (v := .agg #[.int .u64 x448.Lo, .int .u64 x448.Hi]) hb460 (by kernel_rfl) #[.int .u64 x448.Lo, .int .u64 x448.Hi] (by kernel_rfl) ?_
   intro w462 hb463 hc464
   have hz466 := hc464.size
   have hC465 := hC455.step1 hc464 (by omega)
   have hb467 := hb457.chg1 hc464 (by omega)
   have hb468 := hb458.chg1 hc464 (by omega)
   have hb469 := hb459.chg1 hc464 (by omega)
   have hb470 := hb461.chg1 hc464 (by omega)
   refine WR.fin (by kernel_rfl) ?_
   refine go hK447 ?_
   refine CW.ret ?_
   exact retCD [.agg #[.int .u64 x448.Lo, .int .u64 x448.Hi]] (.agg #[.int .u64 x448.Lo, .int .u64 x448.Hi]) rfl ⟨resCell hb463 rfl (by kernel_rfl), trivial⟩ (⟨hC465, (congrArg (fun r : TSpan => (.agg #[.int .u64 r.Lo, .int .u64 r.Hi] : Value)) hs451).symm⟩)
  have hs471 := ifF ht445 hs414
  replace ht445 : (x412 = true) ∧ ((span_Right a3) = true) := ⟨(bNotF (bOrF ht445).1), (bNotF (bOrF ht445).2)⟩
  refine CW.skip ?_
  refine go hK410 ?_
  refine CW.seq fun K472 hK472 => ?_
  refine CW.region ?_
  refine WR.batch 1 [(5, pt g2 0), (6, pt g12 0), (7, pt g24 0), (8, pt g38 0), (9, .func (.func 79) #[] #[]), (31, .func (.func 54) #[] #[pt g2 0, pt g38 0])] (by kernel_rfl) ?_
  refine WR.defer (dst := none) (d := { target := .fn (.func 54) #[pt g2 0, pt g38 0], args := #[] }) (by kernel_rfl) ?_
  refine WR.fin (by kernel_rfl) ?_
  refine go hK472 ?_
  refine CW.seq fun K473 hK473 => ?_
  refine CW.region ?_
  refine WR.batch 1 [(5, pt g2 0), (6, pt g12 0), (7, pt g24 0), (8, pt g38 0), (32, .func (.func 79) #[] #[])] (by kernel_rfl) ?_
  refine WR.load (dst := some 33) (t := 4) (o := 0) hb439 (by kernel_rfl) (.bool a1) (by kernel_rfl) ?_
  refine WR.load (dst := some 34) (t := 25) (o := 0) hb440 (by kernel_rfl) (.agg #[.int .u64 a2.Lo, .int .u64 a2.Hi]) (by kernel_rfl) ?_
  refine WR.load (dst := some 35) (t := 25) (o := 0) hb441 (by kernel_rfl) (.agg #[.int .u64 a3.Lo, .int .u64 a3.Hi]) (by kernel_rfl) ?_
  obtain ⟨x474, hx475⟩ : ∃ x, span_over a1 a2 a3 = x := ⟨_, rfl⟩
  have hs477 := letS hx475 hs471
  have hxx474_ : x474.size = 32 ∨ x474.size = 64 := by rw [← hx475]; exact span_over_size _ _ _
  have hx478 : (0 ≤ x474.a.Lo ∧ x474.a.Lo ≤ 18446744073709551615) ∧ (0 ≤ x474.a.Hi ∧ x474.a.Hi ≤ 18446744073709551615) ∧ (0 ≤ x474.b.Lo ∧ x474.b.Lo ≤ 18446744073709551615) ∧ (0 ≤ x474.b.Hi ∧ x474.b.Hi ≤ 18446744073709551615) ∧ (0 ≤ x474.most ∧ x474.most ≤ 18446744073709551615) ∧ (0 ≤ x474.size ∧ x474.size ≤ 18446744073709551615) := by rw [← hx475]; exact span_over_ok a1 a2 a3 ⟨(by omega), (by omega)⟩ ⟨(by omega), (by omega)⟩ 
  refine WR.call (dst := some 36) (by kernel_rfl) (retE (g := fun r : Twork => (.agg #[.int .u64 r.a.Lo, .int .u64 r.a.Hi, .int .u64 r.b.Lo, .int .u64 r.b.Hi, .bool r.narrow, .int .u64 r.most, .int .u64 r.size] : Value)) hx475 (span_over_any a1 a2 a3 w435  ⟨(by omega), (by omega)⟩ ⟨(by omega), (by omega)⟩ )) ?_
  rintro _ w479 hc480 rfl
  have hz482 := hc480.size
  have hC481 := hC437.pure hc480
  have hb483 := hb439.pure hc480
  have hb484 := hb440.pure hc480
  have hb485 := hb441.pure hc480
  have hb486 := hb442.pure hc480
  have hb487 := hb443.pure hc480
  obtain ⟨x488, hx489⟩ : ∃ x, span_work_div x474 = x := ⟨_, rfl⟩
  have hs491 := letS hx489 hs477
  have hx492 : (0 ≤ x488.Lo ∧ x488.Lo ≤ 18446744073709551615) ∧ (0 ≤ x488.Hi ∧ x488.Hi ≤ 18446744073709551615) := by rw [← hx489]; exact span_work_div_ok x474 ⟨(by omega), (by omega), (by omega), (by omega), (by omega), (by omega)⟩ 
  refine WR.call (dst := some 37) (by kernel_rfl) (retE (g := fun r : TSpan => (.agg #[.int .u64 r.Lo, .int .u64 r.Hi] : Value)) hx489 (span_work_div_any x474 w479  ⟨(by omega), (by omega), (by omega), (by omega), (by omega), (by omega)⟩ )) ?_
  rintro _ w493 hc494 rfl
  have hz496 := hc494.size
  have hC495 := hC481.pure hc494
  have hb497 := hb483.pure hc494
  have hb498 := hb484.pure hc494
  have hb499 := hb485.pure hc494
  have hb500 := hb486.pure hc494
  have hb501 := hb487.pure hc494
  refine WR.store (t := 25) (o := 0) (v := .agg #[.int .u64 x488.Lo, .int .u64 x488.Hi]) hb500 (by kernel_rfl) #[.int .u64 x488.Lo, .int .u64 x488.Hi] (by kernel_rfl) ?_
  intro w502 hb503 hc504
  have hz506 := hc504.size
  have hC505 := hC495.step1 hc504 (by omega)
  have hb507 := hb497.chg1 hc504 (by omega)
  have hb508 := hb498.chg1 hc504 (by omega)
  have hb509 := hb499.chg1 hc504 (by omega)
  have hb510 := hb501.chg1 hc504 (by omega)
  refine WR.fin (by kernel_rfl) ?_
  refine go hK473 ?_
  refine CW.ret ?_
  exact retD (P := Try.prog) (fn := Try.f19) (d := { target := .fn (.func 54) #[pt g2 0, pt g38 0], args := #[] }) (fv := .func 54) (cap := #[pt g2 0, pt g38 0]) (f := 54) (args := #[pt g2 0, pt g38 0]) (M := fun w1 => Chg [] w502 w1) rfl (by kernel_rfl) (span_Do_1_ret g2 g38 w502) (fun _ => [.agg #[.int .u64 x488.Lo, .int .u64 x488.Hi]]) (fun w1 hM => ⟨resCell (hb503.pure hM) rfl (by kernel_rfl), trivial⟩) (fun w1 hM => ⟨(hC505.pure hM), (congrArg (fun r : TSpan => (.agg #[.int .u64 r.Lo, .int .u64 r.Hi] : Value)) hs491).symm⟩)
 have hs511 := ifF hq408 hs407
 rcases Bool.eq_false_or_eq_true (a0 == (5 : Int)) with hq512 | hq512
 ·
  have hs513 := ifT hq512 hs511
  replace hq512 := bEqT hq512
  refine WR.valR (dst := some 14) (v := .tuple #[.func (.func 80) #[] #[], .bool true]) (w' := w58) (run_lookup (t := 73) (co := true) (kt := 22) (et := 71) (d := .int .u8) (x := .int .u8 a0) (z := .nilFunc) hb56 (by kernel_rfl) (by kernel_rfl) rfl (some (4, .func (.func 80) #[] #[])) (by rw [hq512]; rfl) (by kernel_rfl) _ (by kernel_rfl)) ?_
  refine WR.batch 5 [(5, pt g2 0), (6, pt g12 0), (7, pt g24 0), (8, pt g38 0), (9, .func (.func 80) #[] #[]), (10, .bool true)] (by kernel_rfl) ?_
  refine WR.fin (by kernel_rfl) ?_
  refine go hK54 ?_
  refine CW.seq fun K514 hK514 => ?_
  refine CW.seq fun K515 hK515 => ?_
  refine CW.region ?_
  refine WR.batch 3 [(5, pt g2 0), (6, pt g12 0), (7, pt g24 0), (8, pt g38 0), (9, .func (.func 80) #[] #[]), (19, .bool false)] (by kernel_rfl) ?_
  refine WR.load (dst := some 20) (t := 25) (o := 0) hb63 (by kernel_rfl) (.agg #[.int .u64 a2.Lo, .int .u64 a2.Hi]) (by kernel_rfl) ?_
  obtain ⟨x516, hx517⟩ : ∃ x, span_Right a2 = x := ⟨_, rfl⟩
  have hs518 := letS hx517 hs513
  refine WR.call (dst := some 21) (by kernel_rfl) (retE (g := fun r : Bool => (.bool r : Value)) hx517 (span_Right_any a2 w58  ⟨(by omega), (by omega)⟩ )) ?_
  rintro _ w519 hc520 rfl
  have hz522 := hc520.size
  have hC521 := hC60.pure hc520
  have hb523 := hb62.pure hc520
  have hb524 := hb63.pure hc520
  have hb525 := hb64.pure hc520
  have hb526 := hb65.pure hc520
  have hb527 := hb56.pure hc520
  refine WR.batch 3 [(5, pt g2 0), (6, pt g12 0), (7, pt g24 0), (8, pt g38 0), (9, .func (.func 80) #[] #[]), (24, .bool (!x516))] (by kernel_rfl) ?_
  refine WR.mergeW 12 [(5, pt g2 0), (6, pt g12 0), (7, pt g24 0), (8, pt g38 0), (9, .func (.func 80) #[] #[]), (28, .bool ((!x516) || (!(span_Right a3))))] (fun w' => Chg [] w519 w') (fun Q' => ?_) ?_
  ·
   cases hg528 : (!x516)
   ·
    replace hg528 : x516 = true := (bNotF hg528)
    intro hM529
    refine WR.load (dst := some 25) (t := 25) (o := 0) hb525 (by kernel_rfl) (.agg #[.int .u64 a3.Lo, .int .u64 a3.Hi]) (by kernel_rfl) ?_
    refine WR.call (dst := some 26) (by kernel_rfl) (span_Right_any a3 w519  ⟨(by omega), (by omega)⟩ ) ?_
    rintro _ w530 hc531 rfl
    have hz533 := hc531.size
    have hC532 := hC521.pure hc531
    have hb534 := hb523.pure hc531
    have hb535 := hb524.pure hc531
    have hb536 := hb525.pure hc531
    have hb537 := hb526.pure hc531
    have hb538 := hb527.pure hc531
    refine WR.batch 2 [(5, pt g2 0), (6, pt g12 0), (7, pt g24 0), (8, pt g38 0), (9, .func (.func 80) #[] #[]), (28, .bool (!(span_Right a3)))] (by kernel_rfl) ?_
    exact WR.keep [5, 6, 7, 8, 9, 28] (by kernel_rfl) (hM529 _ ((Chg.refl [] w519).pure hc531))
   ·
    replace hg528 : x516 = false := (bNotT hg528)
    intro hM529
    refine WR.batch 4 [(5, pt g2 0), (6, pt g12 0), (7, pt g24 0), (8, pt g38 0), (9, .func (.func 80) #[] #[]), (28, .bool true)] (by kernel_rfl) ?_
    exact WR.keep [5, 6, 7, 8, 9, 28] (by kernel_rfl) (hM529 _ (Chg.refl [] w519))
  intro w539 hc540
  have hz542 := hc540.size
  have hC541 := hC521.pure hc540
  have hb543 := hb523.pure hc540
  have hb544 := hb524.pure hc540
  have hb545 := hb525.pure hc540
  have hb546 := hb526.pure hc540
  have hb547 := hb527.pure hc540
  have hx548 : (0 ≤ (span_All a1).Lo ∧ (span_All a1).Lo ≤ 18446744073709551615) ∧ (0 ≤ (span_All a1).Hi ∧ (span_All a1).Hi ≤ 18446744073709551615) := span_All_ok a1 
  refine WR.fin (by kernel_rfl) ?_
  refine go hK515 ?_
  refine CW.cond (((!x516) || (!(span_Right a3)))) (by kernel_rfl) (fun ht549 => ?_) (fun ht549 => ?_)
  ·
   have hs550 := ifT ht549 hs518
   replace ht549 : (x516 = false) ∨ ((span_Right a3) = false) := (orMap (bOrT ht549) (fun h => (bNotT h)) (fun h => (bNotT h)))
   refine CW.seq fun K551 hK551 => ?_
   refine CW.region ?_
   refine WR.load (dst := some 29) (t := 4) (o := 0) hb543 (by kernel_rfl) (.bool a1) (by kernel_rfl) ?_
   obtain ⟨x552, hx553⟩ : ∃ x, span_All a1 = x := ⟨_, rfl⟩
   have hs555 := letS hx553 hs550
   have hx556 : (0 ≤ x552.Lo ∧ x552.Lo ≤ 18446744073709551615) ∧ (0 ≤ x552.Hi ∧ x552.Hi ≤ 18446744073709551615) := by rw [← hx553]; exact span_All_ok a1 
   refine WR.call (dst := some 30) (by kernel_rfl) (retE (g := fun r : TSpan => (.agg #[.int .u64 r.Lo, .int .u64 r.Hi] : Value)) hx553 (span_All_any a1 w539  )) ?_
   rintro _ w557 hc558 rfl
   have hz560 := hc558.size
   have hC559 := hC541.pure hc558
   have hb561 := hb543.pure hc558
   have hb562 := hb544.pure hc558
   have hb563 := hb545.pure hc558
   have hb564 := hb546.pure hc558
   have hb565 := hb547.pure hc558
   refine WR.store (t := 25) (o := 0) (v := .agg #[.int .u64 x552.Lo, .int .u64 x552.Hi]) hb564 (by kernel_rfl) #[.int .u64 x552.Lo, .int .u64 x552.Hi] (by kernel_rfl) ?_
   intro w566 hb567 hc568
   have hz570 := hc568.size
   have hC569 := hC559.step1 hc568 (by omega)
   have hb571 := hb561.chg1 hc568 (by omega)
   have hb572 := hb562.chg1 hc568 (by omega)
   have hb573 := hb563.chg1 hc568 (by omega)
   have hb574 := hb565.chg1 hc568 (by omega)
   refine WR.fin (by kernel_rfl) ?_
   refine go hK551 ?_
   refine CW.ret ?_
   exact retCD [.agg #[.int .u64 x552.Lo, .int .u64 x552.Hi]] (.agg #[.int .u64 x552.Lo, .int .u64 x552.Hi]) rfl ⟨resCell hb567 rfl (by kernel_rfl), trivial⟩ (⟨hC569, (congrArg (fun r : TSpan => (.agg #[.int .u64 r.Lo, .int .u64 r.Hi] : Value)) hs555).symm⟩)
  have hs575 := ifF ht549 hs518
  replace ht549 : (x516 = true) ∧ ((span_Right a3) = true) := ⟨(bNotF (bOrF ht549).1), (bNotF (bOrF ht549).2)⟩
  refine CW.skip ?_
  refine go hK514 ?_
  refine CW.seq fun K576 hK576 => ?_
  refine CW.region ?_
  refine WR.batch 1 [(5, pt g2 0), (6, pt g12 0), (7, pt g24 0), (8, pt g38 0), (9, .func (.func 80) #[] #[]), (31, .func (.func 54) #[] #[pt g2 0, pt g38 0])] (by kernel_rfl) ?_
  refine WR.defer (dst := none) (d := { target := .fn (.func 54) #[pt g2 0, pt g38 0], args := #[] }) (by kernel_rfl) ?_
  refine WR.fin (by kernel_rfl) ?_
  refine go hK576 ?_
  refine CW.seq fun K577 hK577 => ?_
  refine CW.region ?_
  refine WR.batch 1 [(5, pt g2 0), (6, pt g12 0), (7, pt g24 0), (8, pt g38 0), (32, .func (.func 80) #[] #[])] (by kernel_rfl) ?_
  refine WR.load (dst := some 33) (t := 4) (o := 0) hb543 (by kernel_rfl) (.bool a1) (by kernel_rfl) ?_
  refine WR.load (dst := some 34) (t := 25) (o := 0) hb544 (by kernel_rfl) (.agg #[.int .u64 a2.Lo, .int .u64 a2.Hi]) (by kernel_rfl) ?_
  refine WR.load (dst := some 35) (t := 25) (o := 0) hb545 (by kernel_rfl) (.agg #[.int .u64 a3.Lo, .int .u64 a3.Hi]) (by kernel_rfl) ?_
  obtain ⟨x578, hx579⟩ : ∃ x, span_over a1 a2 a3 = x := ⟨_, rfl⟩
  have hs581 := letS hx579 hs575
  have hxx578_ : x578.size = 32 ∨ x578.size = 64 := by rw [← hx579]; exact span_over_size _ _ _
  have hx582 : (0 ≤ x578.a.Lo ∧ x578.a.Lo ≤ 18446744073709551615) ∧ (0 ≤ x578.a.Hi ∧ x578.a.Hi ≤ 18446744073709551615) ∧ (0 ≤ x578.b.Lo ∧ x578.b.Lo ≤ 18446744073709551615) ∧ (0 ≤ x578.b.Hi ∧ x578.b.Hi ≤ 18446744073709551615) ∧ (0 ≤ x578.most ∧ x578.most ≤ 18446744073709551615) ∧ (0 ≤ x578.size ∧ x578.size ≤ 18446744073709551615) := by rw [← hx579]; exact span_over_ok a1 a2 a3 ⟨(by omega), (by omega)⟩ ⟨(by omega), (by omega)⟩ 
  refine WR.call (dst := some 36) (by kernel_rfl) (retE (g := fun r : Twork => (.agg #[.int .u64 r.a.Lo, .int .u64 r.a.Hi, .int .u64 r.b.Lo, .int .u64 r.b.Hi, .bool r.narrow, .int .u64 r.most, .int .u64 r.size] : Value)) hx579 (span_over_any a1 a2 a3 w539  ⟨(by omega), (by omega)⟩ ⟨(by omega), (by omega)⟩ )) ?_
  rintro _ w583 hc584 rfl
  have hz586 := hc584.size
  have hC585 := hC541.pure hc584
  have hb587 := hb543.pure hc584
  have hb588 := hb544.pure hc584
  have hb589 := hb545.pure hc584
  have hb590 := hb546.pure hc584
  have hb591 := hb547.pure hc584
  obtain ⟨x592, hx593⟩ : ∃ x, span_work_mod x578 = x := ⟨_, rfl⟩
  have hs595 := letS hx593 hs581
  have hx596 : (0 ≤ x592.Lo ∧ x592.Lo ≤ 18446744073709551615) ∧ (0 ≤ x592.Hi ∧ x592.Hi ≤ 18446744073709551615) := by rw [← hx593]; exact span_work_mod_ok x578 ⟨(by omega), (by omega), (by omega), (by omega), (by omega), (by omega)⟩ 
  refine WR.call (dst := some 37) (by kernel_rfl) (retE (g := fun r : TSpan => (.agg #[.int .u64 r.Lo, .int .u64 r.Hi] : Value)) hx593 (span_work_mod_any x578 w583  ⟨(by omega), (by omega), (by omega), (by omega), (by omega), (by omega)⟩ )) ?_
  rintro _ w597 hc598 rfl
  have hz600 := hc598.size
  have hC599 := hC585.pure hc598
  have hb601 := hb587.pure hc598
  have hb602 := hb588.pure hc598
  have hb603 := hb589.pure hc598
  have hb604 := hb590.pure hc598
  have hb605 := hb591.pure hc598
  refine WR.store (t := 25) (o := 0) (v := .agg #[.int .u64 x592.Lo, .int .u64 x592.Hi]) hb604 (by kernel_rfl) #[.int .u64 x592.Lo, .int .u64 x592.Hi] (by kernel_rfl) ?_
  intro w606 hb607 hc608
  have hz610 := hc608.size
  have hC609 := hC599.step1 hc608 (by omega)
  have hb611 := hb601.chg1 hc608 (by omega)
  have hb612 := hb602.chg1 hc608 (by omega)
  have hb613 := hb603.chg1 hc608 (by omega)
  have hb614 := hb605.chg1 hc608 (by omega)
  refine WR.fin (by kernel_rfl) ?_
  refine go hK577 ?_
  refine CW.ret ?_
  exact retD (P := Try.prog) (fn := Try.f19) (d := { target := .fn (.func 54) #[pt g2 0, pt g38 0], args := #[] }) (fv := .func 54) (cap := #[pt g2 0, pt g38 0]) (f := 54) (args := #[pt g2 0, pt g38 0]) (M := fun w1 => Chg [] w606 w1) rfl (by kernel_rfl) (span_Do_1_ret g2 g38 w606) (fun _ => [.agg #[.int .u64 x592.Lo, .int .u64 x592.Hi]]) (fun w1 hM => ⟨resCell (hb607.pure hM) rfl (by kernel_rfl), trivial⟩) (fun w1 hM => ⟨(hC609.pure hM), (congrArg (fun r : TSpan => (.agg #[.int .u64 r.Lo, .int .u64 r.Hi] : Value)) hs595).symm⟩)
 have hs615 := ifF hq512 hs511
 rcases Bool.eq_false_or_eq_true (a0 == (6 : Int)) with hq616 | hq616
 ·
  have hs617 := ifT hq616 hs615
  replace hq616 := bEqT hq616
  refine WR.valR (dst := some 14) (v := .tuple #[.func (.func 81) #[] #[], .bool true]) (w' := w58) (run_lookup (t := 73) (co := true) (kt := 22) (et := 71) (d := .int .u8) (x := .int .u8 a0) (z := .nilFunc) hb56 (by kernel_rfl) (by kernel_rfl) rfl (some (5, .func (.func 81) #[] #[])) (by rw [hq616]; rfl) (by kernel_rfl) _ (by kernel_rfl)) ?_
  refine WR.batch 5 [(5, pt g2 0), (6, pt g12 0), (7, pt g24 0), (8, pt g38 0), (9, .func (.func 81) #[] #[]), (10, .bool true)] (by kernel_rfl) ?_
  refine WR.fin (by kernel_rfl) ?_
  refine go hK54 ?_
  refine CW.seq fun K618 hK618 => ?_
  refine CW.seq fun K619 hK619 => ?_
  refine CW.region ?_
  refine WR.batch 3 [(5, pt g2 0), (6, pt g12 0), (7, pt g24 0), (8, pt g38 0), (9, .func (.func 81) #[] #[]), (19, .bool false)] (by kernel_rfl) ?_
  refine WR.load (dst := some 20) (t := 25) (o := 0) hb63 (by kernel_rfl) (.agg #[.int .u64 a2.Lo, .int .u64 a2.Hi]) (by kernel_rfl) ?_
  obtain ⟨x620, hx621⟩ : ∃ x, span_Right a2 = x := ⟨_, rfl⟩
  have hs622 := letS hx621 hs617
  refine WR.call (dst := some 21) (by kernel_rfl) (retE (g := fun r : Bool => (.bool r : Value)) hx621 (span_Right_any a2 w58  ⟨(by omega), (by omega)⟩ )) ?_
  rintro _ w623 hc624 rfl
  have hz626 := hc624.size
  have hC625 := hC60.pure hc624
  have hb627 := hb62.pure hc624
  have hb628 := hb63.pure hc624
  have hb629 := hb64.pure hc624
  have hb630 := hb65.pure hc624
  have hb631 := hb56.pure hc624
  refine WR.batch 3 [(5, pt g2 0), (6, pt g12 0), (7, pt g24 0), (8, pt g38 0), (9, .func (.func 81) #[] #[]), (24, .bool (!x620))] (by kernel_rfl) ?_
  refine WR.mergeW 12 [(5, pt g2 0), (6, pt g12 0), (7, pt g24 0), (8, pt g38 0), (9, .func (.func 81) #[] #[]), (28, .bool ((!x620) || (!(span_Right a3))))] (fun w' => Chg [] w623 w') (fun Q' => ?_) ?_
  ·
   cases hg632 : (!x620)
   ·
    replace hg632 : x620 = true := (bNotF hg632)
    intro hM633
    refine WR.load (dst := some 25) (t := 25) (o := 0) hb629 (by kernel_rfl) (.agg #[.int .u64 a3.Lo, .int .u64 a3.Hi]) (by kernel_rfl) ?_
    refine WR.call (dst := some 26) (by kernel_rfl) (span_Right_any a3 w623  ⟨(by omega), (by omega)⟩ ) ?_
    rintro _ w634 hc635 rfl
    have hz637 := hc635.size
    have hC636 := hC625.pure hc635
    have hb638 := hb627.pure hc635
    have hb639 := hb628.pure hc635
    have hb640 := hb629.pure hc635
    have hb641 := hb630.pure hc635
    have hb642 := hb631.pure hc635
    refine WR.batch 2 [(5, pt g2 0), (6, pt g12 0), (7, pt g24 0), (8, pt g38 0), (9, .func (.func 81) #[] #[]), (28, .bool (!(span_Right a3)))] (by kernel_rfl) ?_
    exact WR.keep [5, 6, 7, 8, 9, 28] (by kernel_rfl) (hM633 _ ((Chg.refl [] w623).pure hc635))
   ·
    replace hg632 : x620 = false := (bNotT hg632)
    intro hM633
    refine WR.batch 4 [(5, pt g2 0), (6, pt g12 0), (7, pt g24 0), (8, pt g38 0), (9, .func (.func 81) #[] #[]), (28, .bool true)] (by kernel_rfl) ?_
    exact WR.keep [5, 6, 7, 8, 9, 28] (by kernel_rfl) (hM633 _ (Chg.refl [] w623))
  intro w643 hc644
  have hz646 := hc644.size
  have hC645 := hC625.pure hc644
  have hb647 := hb627.pure hc644
  have hb648 := hb628.pure hc644
  have hb649 := hb629.pure hc644
  have hb650 := hb630.pure hc644
  have hb651 := hb631.pure hc644
  have hx652 : (0 ≤ (span_All a1).Lo ∧ (span_All a1).Lo ≤ 18446744073709551615) ∧ (0 ≤ (span_All a1).Hi ∧ (span_All a1).Hi ≤ 18446744073709551615) := span_All_ok a1 
  refine WR.fin (by kernel_rfl) ?_
  refine go hK619 ?_
  refine CW.cond (((!x620) || (!(span_Right a3)))) (by kernel_rfl) (fun ht653 => ?_) (fun ht653 => ?_)
  ·
   have hs654 := ifT ht653 hs622
   replace ht653 : (x620 = false) ∨ ((span_Right a3) = false) := (orMap (bOrT ht653) (fun h => (bNotT h)) (fun h => (bNotT h)))
   refine CW.seq fun K655 hK655 => ?_
   refine CW.region ?_
   refine WR.load (dst := some 29) (t := 4) (o := 0) hb647 (by kernel_rfl) (.bool a1) (by kernel_rfl) ?_
   obtain ⟨x656, hx657⟩ : ∃ x, span_All a1 = x := ⟨_, rfl⟩
   have hs659 := letS hx657 hs654
   have hx660 : (0 ≤ x656.Lo ∧ x656.Lo ≤ 18446744073709551615) ∧ (0 ≤ x656.Hi ∧ x656.Hi ≤ 18446744073709551615) := by rw [← hx657]; exact span_All_ok a1 
   refine WR.call (dst := some 30) (by kernel_rfl) (retE (g := fun r : TSpan => (.agg #[.int .u64 r.Lo, .int .u64 r.Hi] : Value)) hx657 (span_All_any a1 w643  )) ?_
   rintro _ w661 hc662 rfl
   have hz664 := hc662.size
   have hC663 := hC645.pure hc662
   have hb665 := hb647.pure hc662
   have hb666 := hb648.pure hc662
   have hb667 := hb649.pure hc662
   have hb668 := hb650.pure hc662
   have hb669 := hb651.pure hc662
   refine WR.store (t := 25) (o := 0) (v := .agg #[.int .u64 x656.Lo, .int .u64 x656.Hi]) hb668 (by kernel_rfl) #[.int .u64 x656.Lo, .int .u64 x656.Hi] (by kernel_rfl) ?_
   intro w670 hb671 hc672
   have hz674 := hc672.size
   have hC673 := hC663.step1 hc672 (by omega)
   have hb675 := hb665.chg1 hc672 (by omega)
   have hb676 := hb666.chg1 hc672 (by omega)
   have hb677 := hb667.chg1 hc672 (by omega)
   have hb678 := hb669.chg1 hc672 (by omega)
   refine WR.fin (by kernel_rfl) ?_
   refine go hK655 ?_
   refine CW.ret ?_
   exact retCD [.agg #[.int .u64 x656.Lo, .int .u64 x656.Hi]] (.agg #[.int .u64 x656.Lo, .int .u64 x656.Hi]) rfl ⟨resCell hb671 rfl (by kernel_rfl), trivial⟩ (⟨hC673, (congrArg (fun r : TSpan => (.agg #[.int .u64 r.Lo, .int .u64 r.Hi] : Value)) hs659).symm⟩)
  have hs679 := ifF ht653 hs622
  replace ht653 : (x620 = true) ∧ ((span_Right a3) = true) := ⟨(bNotF (bOrF ht653).1), (bNotF (bOrF ht653).2)⟩
  refine CW.skip ?_
  refine go hK618 ?_
  refine CW.seq fun K680 hK680 => ?_
  refine CW.region ?_
  refine WR.batch 1 [(5, pt g2 0), (6, pt g12 0), (7, pt g24 0), (8, pt g38 0), (9, .func (.func 81) #[] #[]), (31, .func (.func 54) #[] #[pt g2 0, pt g38 0])] (by kernel_rfl) ?_
  refine WR.defer (dst := none) (d := { target := .fn (.func 54) #[pt g2 0, pt g38 0], args := #[] }) (by kernel_rfl) ?_
  refine WR.fin (by kernel_rfl) ?_
  refine go hK680 ?_
  refine CW.seq fun K681 hK681 => ?_
  refine CW.region ?_
  refine WR.batch 1 [(5, pt g2 0), (6, pt g12 0), (7, pt g24 0), (8, pt g38 0), (32, .func (.func 81) #[] #[])] (by kernel_rfl) ?_
  refine WR.load (dst := some 33) (t := 4) (o := 0) hb647 (by kernel_rfl) (.bool a1) (by kernel_rfl) ?_
  refine WR.load (dst := some 34) (t := 25) (o := 0) hb648 (by kernel_rfl) (.agg #[.int .u64 a2.Lo, .int .u64 a2.Hi]) (by kernel_rfl) ?_
  refine WR.load (dst := some 35) (t := 25) (o := 0) hb649 (by kernel_rfl) (.agg #[.int .u64 a3.Lo, .int .u64 a3.Hi]) (by kernel_rfl) ?_
  obtain ⟨x682, hx683⟩ : ∃ x, span_over a1 a2 a3 = x := ⟨_, rfl⟩
  have hs685 := letS hx683 hs679
  have hxx682_ : x682.size = 32 ∨ x682.size = 64 := by rw [← hx683]; exact span_over_size _ _ _
  have hx686 : (0 ≤ x682.a.Lo ∧ x682.a.Lo ≤ 18446744073709551615) ∧ (0 ≤ x682.a.Hi ∧ x682.a.Hi ≤ 18446744073709551615) ∧ (0 ≤ x682.b.Lo ∧ x682.b.Lo ≤ 18446744073709551615) ∧ (0 ≤ x682.b.Hi ∧ x682.b.Hi ≤ 18446744073709551615) ∧ (0 ≤ x682.most ∧ x682.most ≤ 18446744073709551615) ∧ (0 ≤ x682.size ∧ x682.size ≤ 18446744073709551615) := by rw [← hx683]; exact span_over_ok a1 a2 a3 ⟨(by omega), (by omega)⟩ ⟨(by omega), (by omega)⟩ 
  refine WR.call (dst := some 36) (by kernel_rfl) (retE (g := fun r : Twork => (.agg #[.int .u64 r.a.Lo, .int .u64 r.a.Hi, .int .u64 r.b.Lo, .int .u64 r.b.Hi, .bool r.narrow, .int .u64 r.most, .int .u64 r.size] : Value)) hx683 (span_over_any a1 a2 a3 w643  ⟨(by omega), (by omega)⟩ ⟨(by omega), (by omega)⟩ )) ?_
  rintro _ w687 hc688 rfl
  have hz690 := hc688.size
  have hC689 := hC645.pure hc688
  have hb691 := hb647.pure hc688
  have hb692 := hb648.pure hc688
  have hb693 := hb649.pure hc688
  have hb694 := hb650.pure hc688
  have hb695 := hb651.pure hc688
  obtain ⟨x696, hx697⟩ : ∃ x, span_work_and x682 = x := ⟨_, rfl⟩
  have hs699 := letS hx697 hs685
  have hx700 : (0 ≤ x696.Lo ∧ x696.Lo ≤ 18446744073709551615) ∧ (0 ≤ x696.Hi ∧ x696.Hi ≤ 18446744073709551615) := by rw [← hx697]; exact span_work_and_ok x682 ⟨(by omega), (by omega), (by omega), (by omega), (by omega), (by omega)⟩ 
  refine WR.call (dst := some 37) (by kernel_rfl) (retE (g := fun r : TSpan => (.agg #[.int .u64 r.Lo, .int .u64 r.Hi] : Value)) hx697 (span_work_and_any x682 w687  ⟨(by omega), (by omega), (by omega), (by omega), (by omega), (by omega)⟩ )) ?_
  rintro _ w701 hc702 rfl
  have hz704 := hc702.size
  have hC703 := hC689.pure hc702
  have hb705 := hb691.pure hc702
  have hb706 := hb692.pure hc702
  have hb707 := hb693.pure hc702
  have hb708 := hb694.pure hc702
  have hb709 := hb695.pure hc702
  refine WR.store (t := 25) (o := 0) (v := .agg #[.int .u64 x696.Lo, .int .u64 x696.Hi]) hb708 (by kernel_rfl) #[.int .u64 x696.Lo, .int .u64 x696.Hi] (by kernel_rfl) ?_
  intro w710 hb711 hc712
  have hz714 := hc712.size
  have hC713 := hC703.step1 hc712 (by omega)
  have hb715 := hb705.chg1 hc712 (by omega)
  have hb716 := hb706.chg1 hc712 (by omega)
  have hb717 := hb707.chg1 hc712 (by omega)
  have hb718 := hb709.chg1 hc712 (by omega)
  refine WR.fin (by kernel_rfl) ?_
  refine go hK681 ?_
  refine CW.ret ?_
  exact retD (P := Try.prog) (fn := Try.f19) (d := { target := .fn (.func 54) #[pt g2 0, pt g38 0], args := #[] }) (fv := .func 54) (cap := #[pt g2 0, pt g38 0]) (f := 54) (args := #[pt g2 0, pt g38 0]) (M := fun w1 => Chg [] w710 w1) rfl (by kernel_rfl) (span_Do_1_ret g2 g38 w710) (fun _ => [.agg #[.int .u64 x696.Lo, .int .u64 x696.Hi]]) (fun w1 hM => ⟨resCell (hb711.pure hM) rfl (by kernel_rfl), trivial⟩) (fun w1 hM => ⟨(hC713.pure hM), (congrArg (fun r : TSpan => (.agg #[.int .u64 r.Lo, .int .u64 r.Hi] : Value)) hs699).symm⟩)
 have hs719 := ifF hq616 hs615
 rcases Bool.eq_false_or_eq_true (a0 == (7 : Int)) with hq720 | hq720
 ·
  have hs721 := ifT hq720 hs719
  replace hq720 := bEqT hq720
  refine WR.valR (dst := some 14) (v := .tuple #[.func (.func 82) #[] #[], .bool true]) (w' := w58) (run_lookup (t := 73) (co := true) (kt := 22) (et := 71) (d := .int .u8) (x := .int .u8 a0) (z := .nilFunc) hb56 (by kernel_rfl) (by kernel_rfl) rfl (some (6, .func (.func 82) #[] #[])) (by rw [hq720]; rfl) (by kernel_rfl) _ (by kernel_rfl)) ?_
  refine WR.batch 5 [(5, pt g2 0), (6, pt g12 0), (7, pt g24 0), (8, pt g38 0), (9, .func (.func 82) #[] #[]), (10, .bool true)] (by kernel_rfl) ?_
  refine WR.fin (by kernel_rfl) ?_
  refine go hK54 ?_
  refine CW.seq fun K722 hK722 => ?_
  refine CW.seq fun K723 hK723 => ?_
  refine CW.region ?_
  refine WR.batch 3 [(5, pt g2 0), (6, pt g12 0), (7, pt g24 0), (8, pt g38 0), (9, .func (.func 82) #[] #[]), (19, .bool false)] (by kernel_rfl) ?_
  refine WR.load (dst := some 20) (t := 25) (o := 0) hb63 (by kernel_rfl) (.agg #[.int .u64 a2.Lo, .int .u64 a2.Hi]) (by kernel_rfl) ?_
  obtain ⟨x724, hx725⟩ : ∃ x, span_Right a2 = x := ⟨_, rfl⟩
  have hs726 := letS hx725 hs721
  refine WR.call (dst := some 21) (by kernel_rfl) (retE (g := fun r : Bool => (.bool r : Value)) hx725 (span_Right_any a2 w58  ⟨(by omega), (by omega)⟩ )) ?_
  rintro _ w727 hc728 rfl
  have hz730 := hc728.size
  have hC729 := hC60.pure hc728
  have hb731 := hb62.pure hc728
  have hb732 := hb63.pure hc728
  have hb733 := hb64.pure hc728
  have hb734 := hb65.pure hc728
  have hb735 := hb56.pure hc728
  refine WR.batch 3 [(5, pt g2 0), (6, pt g12 0), (7, pt g24 0), (8, pt g38 0), (9, .func (.func 82) #[] #[]), (24, .bool (!x724))] (by kernel_rfl) ?_
  refine WR.mergeW 12 [(5, pt g2 0), (6, pt g12 0), (7, pt g24 0), (8, pt g38 0), (9, .func (.func 82) #[] #[]), (28, .bool ((!x724) || (!(span_Right a3))))] (fun w' => Chg [] w727 w') (fun Q' => ?_) ?_
  ·
   cases hg736 : (!x724)
   ·
    replace hg736 : x724 = true := (bNotF hg736)
    intro hM737
    refine WR.load (dst := some 25) (t := 25) (o := 0) hb733 (by kernel_rfl) (.agg #[.int .u64 a3.Lo, .int .u64 a3.Hi]) (by kernel_rfl) ?_
    refine WR.call (dst := some 26) (by kernel_rfl) (span_Right_any a3 w727  ⟨(by omega), (by omega)⟩ ) ?_
    rintro _ w738 hc739 rfl
    have hz741 := hc739.size
    have hC740 := hC729.pure hc739
    have hb742 := hb731.pure hc739
    have hb743 := hb732.pure hc739
    have hb744 := hb733.pure hc739
    have hb745 := hb734.pure hc739
    have hb746 := hb735.pure hc739
    refine WR.batch 2 [(5, pt g2 0), (6, pt g12 0), (7, pt g24 0), (8, pt g38 0), (9, .func (.func 82) #[] #[]), (28, .bool (!(span_Right a3)))] (by kernel_rfl) ?_
    exact WR.keep [5, 6, 7, 8, 9, 28] (by kernel_rfl) (hM737 _ ((Chg.refl [] w727).pure hc739))
   ·
    replace hg736 : x724 = false := (bNotT hg736)
    intro hM737
    refine WR.batch 4 [(5, pt g2 0), (6, pt g12 0), (7, pt g24 0), (8, pt g38 0), (9, .func (.func 82) #[] #[]), (28, .bool true)] (by kernel_rfl) ?_
    exact WR.keep [5, 6, 7, 8, 9, 28] (by kernel_rfl) (hM737 _ (Chg.refl [] w727))
  intro w747 hc748
  have hz750 := hc748.size
  have hC749 := hC729.pure hc748
  have hb751 := hb731.pure hc748
  have hb752 := hb732.pure hc748
  have hb753 := hb733.pure hc748
  have hb754 := hb734.pure hc748
  have hb755 := hb735.pure hc748
  have hx756 : (0 ≤ (span_All a1).Lo ∧ (span_All a1).Lo ≤ 18446744073709551615) ∧ (0 ≤ (span_All a1).Hi ∧ (span_All a1).Hi ≤ 18446744073709551615) := span_All_ok a1 
  refine WR.fin (by kernel_rfl) ?_
  refine go hK723 ?_
  refine CW.cond (((!x724) || (!(span_Right a3)))) (by kernel_rfl) (fun ht757 => ?_) (fun ht757 => ?_)
  ·
   have hs758 := ifT ht757 hs726
   replace ht757 : (x724 = false) ∨ ((span_Right a3) = false) := (orMap (bOrT ht757) (fun h => (bNotT h)) (fun h => (bNotT h)))
   refine CW.seq fun K759 hK759 => ?_
   refine CW.region ?_
   refine WR.load (dst := some 29) (t := 4) (o := 0) hb751 (by kernel_rfl) (.bool a1) (by kernel_rfl) ?_
   obtain ⟨x760, hx761⟩ : ∃ x, span_All a1 = x := ⟨_, rfl⟩
   have hs763 := letS hx761 hs758
   have hx764 : (0 ≤ x760.Lo ∧ x760.Lo ≤ 18446744073709551615) ∧ (0 ≤ x760.Hi ∧ x760.Hi ≤ 18446744073709551615) := by rw [← hx761]; exact span_All_ok a1 
   refine WR.call (dst := some 30) (by kernel_rfl) (retE (g := fun r : TSpan => (.agg #[.int .u64 r.Lo, .int .u64 r.Hi] : Value)) hx761 (span_All_any a1 w747  )) ?_
   rintro _ w765 hc766 rfl
   have hz768 := hc766.size
   have hC767 := hC749.pure hc766
   have hb769 := hb751.pure hc766
   have hb770 := hb752.pure hc766
   have hb771 := hb753.pure hc766
   have hb772 := hb754.pure hc766
   have hb773 := hb755.pure hc766
   refine WR.store (t := 25) (o := 0) (v := .agg #[.int .u64 x760.Lo, .int .u64 x760.Hi]) hb772 (by kernel_rfl) #[.int .u64 x760.Lo, .int .u64 x760.Hi] (by kernel_rfl) ?_
   intro w774 hb775 hc776
   have hz778 := hc776.size
   have hC777 := hC767.step1 hc776 (by omega)
   have hb779 := hb769.chg1 hc776 (by omega)
   have hb780 := hb770.chg1 hc776 (by omega)
   have hb781 := hb771.chg1 hc776 (by omega)
   have hb782 := hb773.chg1 hc776 (by omega)
   refine WR.fin (by kernel_rfl) ?_
   refine go hK759 ?_
   refine CW.ret ?_
   exact retCD [.agg #[.int .u64 x760.Lo, .int .u64 x760.Hi]] (.agg #[.int .u64 x760.Lo, .int .u64 x760.Hi]) rfl ⟨resCell hb775 rfl (by kernel_rfl), trivial⟩ (⟨hC777, (congrArg (fun r : TSpan => (.agg #[.int .u64 r.Lo, .int .u64 r.Hi] : Value)) hs763).symm⟩)
  have hs783 := ifF ht757 hs726
  replace ht757 : (x724 = true) ∧ ((span_Right a3) = true) := ⟨(bNotF (bOrF ht757).1), (bNotF (bOrF ht757).2)⟩
  refine CW.skip ?_
  refine go hK722 ?_
  refine CW.seq fun K784 hK784 => ?_
  refine CW.region ?_
  refine WR.batch 1 [(5, pt g2 0), (6, pt g12 0), (7, pt g24 0), (8, pt g38 0), (9, .func (.func 82) #[] #[]), (31, .func (.func 54) #[] #[pt g2 0, pt g38 0])] (by kernel_rfl) ?_
  refine WR.defer (dst := none) (d := { target := .fn (.func 54) #[pt g2 0, pt g38 0], args := #[] }) (by kernel_rfl) ?_
  refine WR.fin (by kernel_rfl) ?_
  refine go hK784 ?_
  refine CW.seq fun K785 hK785 => ?_
  refine CW.region ?_
  refine WR.batch 1 [(5, pt g2 0), (6, pt g12 0), (7, pt g24 0), (8, pt g38 0), (32, .func (.func 82) #[] #[])] (by kernel_rfl) ?_
  refine WR.load (dst := some 33) (t := 4) (o := 0) hb751 (by kernel_rfl) (.bool a1) (by kernel_rfl) ?_
  refine WR.load (dst := some 34) (t := 25) (o := 0) hb752 (by kernel_rfl) (.agg #[.int .u64 a2.Lo, .int .u64 a2.Hi]) (by kernel_rfl) ?_
  refine WR.load (dst := some 35) (t := 25) (o := 0) hb753 (by kernel_rfl) (.agg #[.int .u64 a3.Lo, .int .u64 a3.Hi]) (by kernel_rfl) ?_
  obtain ⟨x786, hx787⟩ : ∃ x, span_over a1 a2 a3 = x := ⟨_, rfl⟩
  have hs789 := letS hx787 hs783
  have hxx786_ : x786.size = 32 ∨ x786.size = 64 := by rw [← hx787]; exact span_over_size _ _ _
  have hx790 : (0 ≤ x786.a.Lo ∧ x786.a.Lo ≤ 18446744073709551615) ∧ (0 ≤ x786.a.Hi ∧ x786.a.Hi ≤ 18446744073709551615) ∧ (0 ≤ x786.b.Lo ∧ x786.b.Lo ≤ 18446744073709551615) ∧ (0 ≤ x786.b.Hi ∧ x786.b.Hi ≤ 18446744073709551615) ∧ (0 ≤ x786.most ∧ x786.most ≤ 18446744073709551615) ∧ (0 ≤ x786.size ∧ x786.size ≤ 18446744073709551615) := by rw [← hx787]; exact span_over_ok a1 a2 a3 ⟨(by omega), (by omega)⟩ ⟨(by omega), (by omega)⟩ 
  refine WR.call (dst := some 36) (by kernel_rfl) (retE (g := fun r : Twork => (.agg #[.int .u64 r.a.Lo, .int .u64 r.a.Hi, .int .u64 r.b.Lo, .int .u64 r.b.Hi, .bool r.narrow, .int .u64 r.most, .int .u64 r.size] : Value)) hx787 (span_over_any a1 a2 a3 w747  ⟨(by omega), (by omega)⟩ ⟨(by omega), (by omega)⟩ )) ?_
  rintro _ w791 hc792 rfl
  have hz794 := hc792.size
  have hC793 := hC749.pure hc792
  have hb795 := hb751.pure hc792
  have hb796 := hb752.pure hc792
  have hb797 := hb753.pure hc792
  have hb798 := hb754.pure hc792
  have hb799 := hb755.pure hc792
  obtain ⟨x800, hx801⟩ : ∃ x, span_work_or x786 = x := ⟨_, rfl⟩
  have hs803 := letS hx801 hs789
  have hx804 : (0 ≤ x800.Lo ∧ x800.Lo ≤ 18446744073709551615) ∧ (0 ≤ x800.Hi ∧ x800.Hi ≤ 18446744073709551615) := by rw [← hx801]; exact span_work_or_ok x786 ⟨(by omega), (by omega), (by omega), (by omega), (by omega), (by omega)⟩ 
  refine WR.call (dst := some 37) (by kernel_rfl) (retE (g := fun r : TSpan => (.agg #[.int .u64 r.Lo, .int .u64 r.Hi] : Value)) hx801 (span_work_or_any x786 w791  ⟨(by omega), (by omega), (by omega), (by omega), (by omega), (by omega)⟩ )) ?_
  rintro _ w805 hc806 rfl
  have hz808 := hc806.size
  have hC807 := hC793.pure hc806
  have hb809 := hb795.pure hc806
  have hb810 := hb796.pure hc806
  have hb811 := hb797.pure hc806
  have hb812 := hb798.pure hc806
  have hb813 := hb799.pure hc806
  refine WR.store (t := 25) (o := 0) (v := .agg #[.int .u64 x800.Lo, .int .u64 x800.Hi]) hb812 (by kernel_rfl) #[.int .u64 x800.Lo, .int .u64 x800.Hi] (by kernel_rfl) ?_
  intro w814 hb815 hc816
  have hz818 := hc816.size
  have hC817 := hC807.step1 hc816 (by omega)
  have hb819 := hb809.chg1 hc816 (by omega)
  have hb820 := hb810.chg1 hc816 (by omega)
  have hb821 := hb811.chg1 hc816 (by omega)
  have hb822 := hb813.chg1 hc816 (by omega)
  refine WR.fin (by kernel_rfl) ?_
  refine go hK785 ?_
  refine CW.ret ?_
  exact retD (P := Try.prog) (fn := Try.f19) (d := { target := .fn (.func 54) #[pt g2 0, pt g38 0], args := #[] }) (fv := .func 54) (cap := #[pt g2 0, pt g38 0]) (f := 54) (args := #[pt g2 0, pt g38 0]) (M := fun w1 => Chg [] w814 w1) rfl (by kernel_rfl) (span_Do_1_ret g2 g38 w814) (fun _ => [.agg #[.int .u64 x800.Lo, .int .u64 x800.Hi]]) (fun w1 hM => ⟨resCell (hb815.pure hM) rfl (by kernel_rfl), trivial⟩) (fun w1 hM => ⟨(hC817.pure hM), (congrArg (fun r : TSpan => (.agg #[.int .u64 r.Lo, .int .u64 r.Hi] : Value)) hs803).symm⟩)
 have hs823 := ifF hq720 hs719
 rcases Bool.eq_false_or_eq_true (a0 == (8 : Int)) with hq824 | hq824
 ·
  have hs825 := ifT hq824 hs823
  replace hq824 := bEqT hq824
  refine WR.valR (dst := some 14) (v := .tuple #[.func (.func 83) #[] #[], .bool true]) (w' := w58) (run_lookup (t := 73) (co := true) (kt := 22) (et := 71) (d := .int .u8) (x := .int .u8 a0) (z := .nilFunc) hb56 (by kernel_rfl) (by kernel_rfl) rfl (some (7, .func (.func 83) #[] #[])) (by rw [hq824]; rfl) (by kernel_rfl) _ (by kernel_rfl)) ?_
  refine WR.batch 5 [(5, pt g2 0), (6, pt g12 0), (7, pt g24 0), (8, pt g38 0), (9, .func (.func 83) #[] #[]), (10, .bool true)] (by kernel_rfl) ?_
  refine WR.fin (by kernel_rfl) ?_
  refine go hK54 ?_
  refine CW.seq fun K826 hK826 => ?_
  refine CW.seq fun K827 hK827 => ?_
  refine CW.region ?_
  refine WR.batch 3 [(5, pt g2 0), (6, pt g12 0), (7, pt g24 0), (8, pt g38 0), (9, .func (.func 83) #[] #[]), (19, .bool false)] (by kernel_rfl) ?_
  refine WR.load (dst := some 20) (t := 25) (o := 0) hb63 (by kernel_rfl) (.agg #[.int .u64 a2.Lo, .int .u64 a2.Hi]) (by kernel_rfl) ?_
  obtain ⟨x828, hx829⟩ : ∃ x, span_Right a2 = x := ⟨_, rfl⟩
  have hs830 := letS hx829 hs825
  refine WR.call (dst := some 21) (by kernel_rfl) (retE (g := fun r : Bool => (.bool r : Value)) hx829 (span_Right_any a2 w58  ⟨(by omega), (by omega)⟩ )) ?_
  rintro _ w831 hc832 rfl
  have hz834 := hc832.size
  have hC833 := hC60.pure hc832
  have hb835 := hb62.pure hc832
  have hb836 := hb63.pure hc832
  have hb837 := hb64.pure hc832
  have hb838 := hb65.pure hc832
  have hb839 := hb56.pure hc832
  refine WR.batch 3 [(5, pt g2 0), (6, pt g12 0), (7, pt g24 0), (8, pt g38 0), (9, .func (.func 83) #[] #[]), (24, .bool (!x828))] (by kernel_rfl) ?_
  refine WR.mergeW 12 [(5, pt g2 0), (6, pt g12 0), (7, pt g24 0), (8, pt g38 0), (9, .func (.func 83) #[] #[]), (28, .bool ((!x828) || (!(span_Right a3))))] (fun w' => Chg [] w831 w') (fun Q' => ?_) ?_
  ·
   cases hg840 : (!x828)
   ·
    replace hg840 : x828 = true := (bNotF hg840)
    intro hM841
    refine WR.load (dst := some 25) (t := 25) (o := 0) hb837 (by kernel_rfl) (.agg #[.int .u64 a3.Lo, .int .u64 a3.Hi]) (by kernel_rfl) ?_
    refine WR.call (dst := some 26) (by kernel_rfl) (span_Right_any a3 w831  ⟨(by omega), (by omega)⟩ ) ?_
    rintro _ w842 hc843 rfl
    have hz845 := hc843.size
    have hC844 := hC833.pure hc843
    have hb846 := hb835.pure hc843
    have hb847 := hb836.pure hc843
    have hb848 := hb837.pure hc843
    have hb849 := hb838.pure hc843
    have hb850 := hb839.pure hc843
    refine WR.batch 2 [(5, pt g2 0), (6, pt g12 0), (7, pt g24 0), (8, pt g38 0), (9, .func (.func 83) #[] #[]), (28, .bool (!(span_Right a3)))] (by kernel_rfl) ?_
    exact WR.keep [5, 6, 7, 8, 9, 28] (by kernel_rfl) (hM841 _ ((Chg.refl [] w831).pure hc843))
   ·
    replace hg840 : x828 = false := (bNotT hg840)
    intro hM841
    refine WR.batch 4 [(5, pt g2 0), (6, pt g12 0), (7, pt g24 0), (8, pt g38 0), (9, .func (.func 83) #[] #[]), (28, .bool true)] (by kernel_rfl) ?_
    exact WR.keep [5, 6, 7, 8, 9, 28] (by kernel_rfl) (hM841 _ (Chg.refl [] w831))
  intro w851 hc852
  have hz854 := hc852.size
  have hC853 := hC833.pure hc852
  have hb855 := hb835.pure hc852
  have hb856 := hb836.pure hc852
  have hb857 := hb837.pure hc852
  have hb858 := hb838.pure hc852
  have hb859 := hb839.pure hc852
  have hx860 : (0 ≤ (span_All a1).Lo ∧ (span_All a1).Lo ≤ 18446744073709551615) ∧ (0 ≤ (span_All a1).Hi ∧ (span_All a1).Hi ≤ 18446744073709551615) := span_All_ok a1 
  refine WR.fin (by kernel_rfl) ?_
  refine go hK827 ?_
  refine CW.cond (((!x828) || (!(span_Right a3)))) (by kernel_rfl) (fun ht861 => ?_) (fun ht861 => ?_)
  ·
   have hs862 := ifT ht861 hs830
   replace ht861 : (x828 = false) ∨ ((span_Right a3) = false) := (orMap (bOrT ht861) (fun h => (bNotT h)) (fun h => (bNotT h)))
   refine CW.seq fun K863 hK863 => ?_
   refine CW.region ?_
   refine WR.load (dst := some 29) (t := 4) (o := 0) hb855 (by kernel_rfl) (.bool a1) (by kernel_rfl) ?_
   obtain ⟨x864, hx865⟩ : ∃ x, span_All a1 = x := ⟨_, rfl⟩
   have hs867 := letS hx865 hs862
   have hx868 : (0 ≤ x864.Lo ∧ x864.Lo ≤ 18446744073709551615) ∧ (0 ≤ x864.Hi ∧ x864.Hi ≤ 18446744073709551615) := by rw [← hx865]; exact span_All_ok a1 
   refine WR.call (dst := some 30) (by kernel_rfl) (retE (g := fun r : TSpan => (.agg #[.int .u64 r.Lo, .int .u64 r.Hi] : Value)) hx865 (span_All_any a1 w851  )) ?_
   rintro _ w869 hc870 rfl
   have hz872 := hc870.size
   have hC871 := hC853.pure hc870
   have hb873 := hb855.pure hc870
   have hb874 := hb856.pure hc870
   have hb875 := hb857.pure hc870
   have hb876 := hb858.pure hc870
   have hb877 := hb859.pure hc870
   refine WR.store (t := 25) (o := 0) (v := .agg #[.int .u64 x864.Lo, .int .u64 x864.Hi]) hb876 (by kernel_rfl) #[.int .u64 x864.Lo, .int .u64 x864.Hi] (by kernel_rfl) ?_
   intro w878 hb879 hc880
   have hz882 := hc880.size
   have hC881 := hC871.step1 hc880 (by omega)
   have hb883 := hb873.chg1 hc880 (by omega)
   have hb884 := hb874.chg1 hc880 (by omega)
   have hb885 := hb875.chg1 hc880 (by omega)
   have hb886 := hb877.chg1 hc880 (by omega)
   refine WR.fin (by kernel_rfl) ?_
   refine go hK863 ?_
   refine CW.ret ?_
   exact retCD [.agg #[.int .u64 x864.Lo, .int .u64 x864.Hi]] (.agg #[.int .u64 x864.Lo, .int .u64 x864.Hi]) rfl ⟨resCell hb879 rfl (by kernel_rfl), trivial⟩ (⟨hC881, (congrArg (fun r : TSpan => (.agg #[.int .u64 r.Lo, .int .u64 r.Hi] : Value)) hs867).symm⟩)
  have hs887 := ifF ht861 hs830
  replace ht861 : (x828 = true) ∧ ((span_Right a3) = true) := ⟨(bNotF (bOrF ht861).1), (bNotF (bOrF ht861).2)⟩
  refine CW.skip ?_
  refine go hK826 ?_
  refine CW.seq fun K888 hK888 => ?_
  refine CW.region ?_
  refine WR.batch 1 [(5, pt g2 0), (6, pt g12 0), (7, pt g24 0), (8, pt g38 0), (9, .func (.func 83) #[] #[]), (31, .func (.func 54) #[] #[pt g2 0, pt g38 0])] (by kernel_rfl) ?_
  refine WR.defer (dst := none) (d := { target := .fn (.func 54) #[pt g2 0, pt g38 0], args := #[] }) (by kernel_rfl) ?_
  refine WR.fin (by kernel_rfl) ?_
  refine go hK888 ?_
  refine CW.seq fun K889 hK889 => ?_
  refine CW.region ?_
  refine WR.batch 1 [(5, pt g2 0), (6, pt g12 0), (7, pt g24 0), (8, pt g38 0), (32, .func (.func 83) #[] #[])] (by kernel_rfl) ?_
  refine WR.load (dst := some 33) (t := 4) (o := 0) hb855 (by kernel_rfl) (.bool a1) (by kernel_rfl) ?_
  refine WR.load (dst := some 34) (t := 25) (o := 0) hb856 (by kernel_rfl) (.agg #[.int .u64 a2.Lo, .int .u64 a2.Hi]) (by kernel_rfl) ?_
  refine WR.load (dst := some 35) (t := 25) (o := 0) hb857 (by kernel_rfl) (.agg #[.int .u64 a3.Lo, .int .u64 a3.Hi]) (by kernel_rfl) ?_
  obtain ⟨x890, hx891⟩ : ∃ x, span_over a1 a2 a3 = x := ⟨_, rfl⟩
  have hs893 := letS hx891 hs887
  have hxx890_ : x890.size = 32 ∨ x890.size = 64 := by rw [← hx891]; exact span_over_size _ _ _
  have hx894 : (0 ≤ x890.a.Lo ∧ x890.a.Lo ≤ 18446744073709551615) ∧ (0 ≤ x890.a.Hi ∧ x890.a.Hi ≤ 18446744073709551615) ∧ (0 ≤ x890.b.Lo ∧ x890.b.Lo ≤ 18446744073709551615) ∧ (0 ≤ x890.b.Hi ∧ x890.b.Hi ≤ 18446744073709551615) ∧ (0 ≤ x890.most ∧ x890.most ≤ 18446744073709551615) ∧ (0 ≤ x890.size ∧ x890.size ≤ 18446744073709551615) := by rw [← hx891]; exact span_over_ok a1 a2 a3 ⟨(by omega), (by omega)⟩ ⟨(by omega), (by omega)⟩ 
  refine WR.call (dst := some 36) (by kernel_rfl) (retE (g := fun r : Twork => (.agg #[.int .u64 r.a.Lo, .int .u64 r.a.Hi, .int .u64 r.b.Lo, .int .u64 r.b.Hi, .bool r.narrow, .int .u64 r.most, .int .u64 r.size] : Value)) hx891 (span_over_any a1 a2 a3 w851  ⟨(by omega), (by omega)⟩ ⟨(by omega), (by omega)⟩ )) ?_
  rintro _ w895 hc896 rfl
  have hz898 := hc896.size
  have hC897 := hC853.pure hc896
  have hb899 := hb855.pure hc896
  have hb900 := hb856.pure hc896
  have hb901 := hb857.pure hc896
  have hb902 := hb858.pure hc896
  have hb903 := hb859.pure hc896
  obtain ⟨x904, hx905⟩ : ∃ x, span_work_xor x890 = x := ⟨_, rfl⟩
  have hs907 := letS hx905 hs893
  have hx908 : (0 ≤ x904.Lo ∧ x904.Lo ≤ 18446744073709551615) ∧ (0 ≤ x904.Hi ∧ x904.Hi ≤ 18446744073709551615) := by rw [← hx905]; exact span_work_xor_ok x890 ⟨(by omega), (by omega), (by omega), (by omega), (by omega), (by omega)⟩ 
  refine WR.call (dst := some 37) (by kernel_rfl) (retE (g := fun r : TSpan => (.agg #[.int .u64 r.Lo, .int .u64 r.Hi] : Value)) hx905 (span_work_xor_any x890 w895  ⟨(by omega), (by omega), (by omega), (by omega), (by omega), (by omega)⟩ )) ?_
  rintro _ w909 hc910 rfl
  have hz912 := hc910.size
  have hC911 := hC897.pure hc910
  have hb913 := hb899.pure hc910
  have hb914 := hb900.pure hc910
  have hb915 := hb901.pure hc910
  have hb916 := hb902.pure hc910
  have hb917 := hb903.pure hc910
  refine WR.store (t := 25) (o := 0) (v := .agg #[.int .u64 x904.Lo, .int .u64 x904.Hi]) hb916 (by kernel_rfl) #[.int .u64 x904.Lo, .int .u64 x904.Hi] (by kernel_rfl) ?_
  intro w918 hb919 hc920
  have hz922 := hc920.size
  have hC921 := hC911.step1 hc920 (by omega)
  have hb923 := hb913.chg1 hc920 (by omega)
  have hb924 := hb914.chg1 hc920 (by omega)
  have hb925 := hb915.chg1 hc920 (by omega)
  have hb926 := hb917.chg1 hc920 (by omega)
  refine WR.fin (by kernel_rfl) ?_
  refine go hK889 ?_
  refine CW.ret ?_
  exact retD (P := Try.prog) (fn := Try.f19) (d := { target := .fn (.func 54) #[pt g2 0, pt g38 0], args := #[] }) (fv := .func 54) (cap := #[pt g2 0, pt g38 0]) (f := 54) (args := #[pt g2 0, pt g38 0]) (M := fun w1 => Chg [] w918 w1) rfl (by kernel_rfl) (span_Do_1_ret g2 g38 w918) (fun _ => [.agg #[.int .u64 x904.Lo, .int .u64 x904.Hi]]) (fun w1 hM => ⟨resCell (hb919.pure hM) rfl (by kernel_rfl), trivial⟩) (fun w1 hM => ⟨(hC921.pure hM), (congrArg (fun r : TSpan => (.agg #[.int .u64 r.Lo, .int .u64 r.Hi] : Value)) hs907).symm⟩)
 have hs927 := ifF hq824 hs823
 rcases Bool.eq_false_or_eq_true (a0 == (9 : Int)) with hq928 | hq928
 ·
  have hs929 := ifT hq928 hs927
  replace hq928 := bEqT hq928
  refine WR.valR (dst := some 14) (v := .tuple #[.func (.func 84) #[] #[], .bool true]) (w' := w58) (run_lookup (t := 73) (co := true) (kt := 22) (et := 71) (d := .int .u8) (x := .int .u8 a0) (z := .nilFunc) hb56 (by kernel_rfl) (by kernel_rfl) rfl (some (8, .func (.func 84) #[] #[])) (by rw [hq928]; rfl) (by kernel_rfl) _ (by kernel_rfl)) ?_
  refine WR.batch 5 [(5, pt g2 0), (6, pt g12 0), (7, pt g24 0), (8, pt g38 0), (9, .func (.func 84) #[] #[]), (10, .bool true)] (by kernel_rfl) ?_
  refine WR.fin (by kernel_rfl) ?_
  refine go hK54 ?_
  refine CW.seq fun K930 hK930 => ?_
  refine CW.seq fun K931 hK931 => ?_
  refine CW.region ?_
  refine WR.batch 3 [(5, pt g2 0), (6, pt g12 0), (7, pt g24 0), (8, pt g38 0), (9, .func (.func 84) #[] #[]), (19, .bool false)] (by kernel_rfl) ?_
  refine WR.load (dst := some 20) (t := 25) (o := 0) hb63 (by kernel_rfl) (.agg #[.int .u64 a2.Lo, .int .u64 a2.Hi]) (by kernel_rfl) ?_
  obtain ⟨x932, hx933⟩ : ∃ x, span_Right a2 = x := ⟨_, rfl⟩
  have hs934 := letS hx933 hs929
  refine WR.call (dst := some 21) (by kernel_rfl) (retE (g := fun r : Bool => (.bool r : Value)) hx933 (span_Right_any a2 w58  ⟨(by omega), (by omega)⟩ )) ?_
  rintro _ w935 hc936 rfl
  have hz938 := hc936.size
  have hC937 := hC60.pure hc936
  have hb939 := hb62.pure hc936
  have hb940 := hb63.pure hc936
  have hb941 := hb64.pure hc936
  have hb942 := hb65.pure hc936
  have hb943 := hb56.pure hc936
  refine WR.batch 3 [(5, pt g2 0), (6, pt g12 0), (7, pt g24 0), (8, pt g38 0), (9, .func (.func 84) #[] #[]), (24, .bool (!x932))] (by kernel_rfl) ?_
  refine WR.mergeW 12 [(5, pt g2 0), (6, pt g12 0), (7, pt g24 0), (8, pt g38 0), (9, .func (.func 84) #[] #[]), (28, .bool ((!x932) || (!(span_Right a3))))] (fun w' => Chg [] w935 w') (fun Q' => ?_) ?_
  ·
   cases hg944 : (!x932)
   ·
    replace hg944 : x932 = true := (bNotF hg944)
    intro hM945
    refine WR.load (dst := some 25) (t := 25) (o := 0) hb941 (by kernel_rfl) (.agg #[.int .u64 a3.Lo, .int .u64 a3.Hi]) (by kernel_rfl) ?_
    refine WR.call (dst := some 26) (by kernel_rfl) (span_Right_any a3 w935  ⟨(by omega), (by omega)⟩ ) ?_
    rintro _ w946 hc947 rfl
    have hz949 := hc947.size
    have hC948 := hC937.pure hc947
    have hb950 := hb939.pure hc947
    have hb951 := hb940.pure hc947
    have hb952 := hb941.pure hc947
    have hb953 := hb942.pure hc947
    have hb954 := hb943.pure hc947
    refine WR.batch 2 [(5, pt g2 0), (6, pt g12 0), (7, pt g24 0), (8, pt g38 0), (9, .func (.func 84) #[] #[]), (28, .bool (!(span_Right a3)))] (by kernel_rfl) ?_
    exact WR.keep [5, 6, 7, 8, 9, 28] (by kernel_rfl) (hM945 _ ((Chg.refl [] w935).pure hc947))
   ·
    replace hg944 : x932 = false := (bNotT hg944)
    intro hM945
    refine WR.batch 4 [(5, pt g2 0), (6, pt g12 0), (7, pt g24 0), (8, pt g38 0), (9, .func (.func 84) #[] #[]), (28, .bool true)] (by kernel_rfl) ?_
    exact WR.keep [5, 6, 7, 8, 9, 28] (by kernel_rfl) (hM945 _ (Chg.refl [] w935))
  intro w955 hc956
  have hz958 := hc956.size
  have hC957 := hC937.pure hc956
  have hb959 := hb939.pure hc956
  have hb960 := hb940.pure hc956
  have hb961 := hb941.pure hc956
  have hb962 := hb942.pure hc956
  have hb963 := hb943.pure hc956
  have hx964 : (0 ≤ (span_All a1).Lo ∧ (span_All a1).Lo ≤ 18446744073709551615) ∧ (0 ≤ (span_All a1).Hi ∧ (span_All a1).Hi ≤ 18446744073709551615) := span_All_ok a1 
  refine WR.fin (by kernel_rfl) ?_
  refine go hK931 ?_
  refine CW.cond (((!x932) || (!(span_Right a3)))) (by kernel_rfl) (fun ht965 => ?_) (fun ht965 => ?_)
  ·
   have hs966 := ifT ht965 hs934
   replace ht965 : (x932 = false) ∨ ((span_Right a3) = false) := (orMap (bOrT ht965) (fun h => (bNotT h)) (fun h => (bNotT h)))
   refine CW.seq fun K967 hK967 => ?_
   refine CW.region ?_
   refine WR.load (dst := some 29) (t := 4) (o := 0) hb959 (by kernel_rfl) (.bool a1) (by kernel_rfl) ?_
   obtain ⟨x968, hx969⟩ : ∃ x, span_All a1 = x := ⟨_, rfl⟩
   have hs971 := letS hx969 hs966
   have hx972 : (0 ≤ x968.Lo ∧ x968.Lo ≤ 18446744073709551615) ∧ (0 ≤ x968.Hi ∧ x968.Hi ≤ 18446744073709551615) := by rw [← hx969]; exact span_All_ok a1 
   refine WR.call (dst := some 30) (by kernel_rfl) (retE (g := fun r : TSpan => (.agg #[.int .u64 r.Lo, .int .u64 r.Hi] : Value)) hx969 (span_All_any a1 w955  )) ?_
   rintro _ w973 hc974 rfl
   have hz976 := hc974.size
   have hC975 := hC957.pure hc974
   have hb977 := hb959.pure hc974
   have hb978 := hb960.pure hc974
   have hb979 := hb961.pure hc974
   have hb980 := hb962.pure hc974
   have hb981 := hb963.pure hc974
   refine WR.store (t := 25) (o := 0) (v := .agg #[.int .u64 x968.Lo, .int .u64 x968.Hi]) hb980 (by kernel_rfl) #[.int .u64 x968.Lo, .int .u64 x968.Hi] (by kernel_rfl) ?_
   intro w982 hb983 hc984
   have hz986 := hc984.size
   have hC985 := hC975.step1 hc984 (by omega)
   have hb987 := hb977.chg1 hc984 (by omega)
   have hb988 := hb978.chg1 hc984 (by omega)
   have hb989 := hb979.chg1 hc984 (by omega)
   have hb990 := hb981.chg1 hc984 (by omega)
   refine WR.fin (by kernel_rfl) ?_
   refine go hK967 ?_
   refine CW.ret ?_
   exact retCD [.agg #[.int .u64 x968.Lo, .int .u64 x968.Hi]] (.agg #[.int .u64 x968.Lo, .int .u64 x968.Hi]) rfl ⟨resCell hb983 rfl (by kernel_rfl), trivial⟩ (⟨hC985, (congrArg (fun r : TSpan => (.agg #[.int .u64 r.Lo, .int .u64 r.Hi] : Value)) hs971).symm⟩)
  have hs991 := ifF ht965 hs934
  replace ht965 : (x932 = true) ∧ ((span_Right a3) = true) := ⟨(bNotF (bOrF ht965).1), (bNotF (bOrF ht965).2)⟩
  refine CW.skip ?_
  refine go hK930 ?_
  refine CW.seq fun K992 hK992 => ?_
  refine CW.region ?_
  refine WR.batch 1 [(5, pt g2 0), (6, pt g12 0), (7, pt g24 0), (8, pt g38 0), (9, .func (.func 84) #[] #[]), (31, .func (.func 54) #[] #[pt g2 0, pt g38 0])] (by kernel_rfl) ?_
  refine WR.defer (dst := none) (d := { target := .fn (.func 54) #[pt g2 0, pt g38 0], args := #[] }) (by kernel_rfl) ?_
  refine WR.fin (by kernel_rfl) ?_
  refine go hK992 ?_
  refine CW.seq fun K993 hK993 => ?_
  refine CW.region ?_
  refine WR.batch 1 [(5, pt g2 0), (6, pt g12 0), (7, pt g24 0), (8, pt g38 0), (32, .func (.func 84) #[] #[])] (by kernel_rfl) ?_
  refine WR.load (dst := some 33) (t := 4) (o := 0) hb959 (by kernel_rfl) (.bool a1) (by kernel_rfl) ?_
  refine WR.load (dst := some 34) (t := 25) (o := 0) hb960 (by kernel_rfl) (.agg #[.int .u64 a2.Lo, .int .u64 a2.Hi]) (by kernel_rfl) ?_
  refine WR.load (dst := some 35) (t := 25) (o := 0) hb961 (by kernel_rfl) (.agg #[.int .u64 a3.Lo, .int .u64 a3.Hi]) (by kernel_rfl) ?_
  obtain ⟨x994, hx995⟩ : ∃ x, span_over a1 a2 a3 = x := ⟨_, rfl⟩
  have hs997 := letS hx995 hs991
  have hxx994_ : x994.size = 32 ∨ x994.size = 64 := by rw [← hx995]; exact span_over_size _ _ _
  have hx998 : (0 ≤ x994.a.Lo ∧ x994.a.Lo ≤ 18446744073709551615) ∧ (0 ≤ x994.a.Hi ∧ x994.a.Hi ≤ 18446744073709551615) ∧ (0 ≤ x994.b.Lo ∧ x994.b.Lo ≤ 18446744073709551615) ∧ (0 ≤ x994.b.Hi ∧ x994.b.Hi ≤ 18446744073709551615) ∧ (0 ≤ x994.most ∧ x994.most ≤ 18446744073709551615) ∧ (0 ≤ x994.size ∧ x994.size ≤ 18446744073709551615) := by rw [← hx995]; exact span_over_ok a1 a2 a3 ⟨(by omega), (by omega)⟩ ⟨(by omega), (by omega)⟩ 
  refine WR.call (dst := some 36) (by kernel_rfl) (retE (g := fun r : Twork => (.agg #[.int .u64 r.a.Lo, .int .u64 r.a.Hi, .int .u64 r.b.Lo, .int .u64 r.b.Hi, .bool r.narrow, .int .u64 r.most, .int .u64 r.size] : Value)) hx995 (span_over_any a1 a2 a3 w955  ⟨(by omega), (by omega)⟩ ⟨(by omega), (by omega)⟩ )) ?_
  rintro _ w999 hc1000 rfl
  have hz1002 := hc1000.size
  have hC1001 := hC957.pure hc1000
  have hb1003 := hb959.pure hc1000
  have hb1004 := hb960.pure hc1000
  have hb1005 := hb961.pure hc1000
  have hb1006 := hb962.pure hc1000
  have hb1007 := hb963.pure hc1000
  rcases hx1009 : span_work_shl x994 with _ | x1008
  ·
   have hs1013 := optN hx1009 hs997
   refine WR.callX (dst := some 37) (by kernel_rfl) (retP_no (g := fun r : TSpan => (.agg #[.int .u64 r.Lo, .int .u64 r.Hi] : Value)) hx1009 (span_work_shl_any x994 w999  ⟨(by omega), (by omega), (by omega), (by omega), (by omega), (by omega)⟩ (by omega))) ?_
   intro w1011 hc1012
   have hz1015 := hc1012.size
   have hC1014 := hC1001.pure hc1012
   have hb1016 := hb1003.pure hc1012
   have hb1017 := hb1004.pure hc1012
   have hb1018 := hb1005.pure hc1012
   have hb1019 := hb1006.pure hc1012
   have hb1020 := hb1007.pure hc1012
   exact panicD (P := Try.prog) (fn := Try.f19) (d := { target := .fn (.func 54) #[pt g2 0, pt g38 0], args := #[] }) (fv := .func 54) (cap := #[pt g2 0, pt g38 0]) (f := 54) (args := #[pt g2 0, pt g38 0]) (M := fun w1 => Chg [g38] w1011 w1 ∧ Blk w1 g2 #[.bool a1] 4 ∧ Blk w1 g38 #[.int .u64 (span_All a1).Lo, .int .u64 (span_All a1).Hi] 25) (x := .iface 76 (.agg #[])) rfl (by kernel_rfl) (span_Do_1_pan a1 (⟨(0 : Int), (0 : Int)⟩ : TSpan) g2 g38 w1011 hb1016 hb1019 (by omega)) (fun _ => [.agg #[.int .u64 (span_All a1).Lo, .int .u64 (span_All a1).Hi]]) (fun w1 hM => ⟨resCell hM.2.2 rfl (by kernel_rfl), trivial⟩) (fun w1 hM => ⟨hC1014.step hM.1 (by intro t ht; simp only [List.mem_cons, List.not_mem_nil, or_false] at ht; subst ht; first | exact .inr (by omega) | exact .inl (by simp)), (congrArg (fun r : TSpan => (.agg #[.int .u64 r.Lo, .int .u64 r.Hi] : Value)) hs1013).symm⟩)
  have hs1021 := optS hx1009 hs997
  have hx1022 : (0 ≤ x1008.Lo ∧ x1008.Lo ≤ 18446744073709551615) ∧ (0 ≤ x1008.Hi ∧ x1008.Hi ≤ 18446744073709551615) := by exact span_work_shl_ok x994 ⟨(by omega), (by omega), (by omega), (by omega), (by omega), (by omega)⟩ (by omega) _ hx1009
  refine WR.call (dst := some 37) (by kernel_rfl) (retP_yes (g := fun r : TSpan => (.agg #[.int .u64 r.Lo, .int .u64 r.Hi] : Value)) hx1009 (span_work_shl_any x994 w999  ⟨(by omega), (by omega), (by omega), (by omega), (by omega), (by omega)⟩ (by omega))) ?_
  rintro _ w1023 hc1024 rfl
  have hz1026 := hc1024.size
  have hC1025 := hC1001.pure hc1024
  have hb1027 := hb1003.pure hc1024
  have hb1028 := hb1004.pure hc1024
  have hb1029 := hb1005.pure hc1024
  have hb1030 := hb1006.pure hc1024
  have hb1031 := hb1007.pure hc1024
  refine WR.store (t := 25) (o := 0) (v := .agg #[.int .u64 x1008.Lo, .int .u64 x1008.Hi]) hb1030 (by kernel_rfl) #[.int .u64 x1008.Lo, .int .u64 x1008.Hi] (by kernel_rfl) ?_
  intro w1032 hb1033 hc1034
  have hz1036 := hc1034.size
  have hC1035 := hC1025.step1 hc1034 (by omega)
  have hb1037 := hb1027.chg1 hc1034 (by omega)
  have hb1038 := hb1028.chg1 hc1034 (by omega)
  have hb1039 := hb1029.chg1 hc1034 (by omega)
  have hb1040 := hb1031.chg1 hc1034 (by omega)
  refine WR.fin (by kernel_rfl) ?_
  refine go hK993 ?_
  refine CW.ret ?_
  exact retD (P := Try.prog) (fn := Try.f19) (d := { target := .fn (.func 54) #[pt g2 0, pt g38 0], args := #[] }) (fv := .func 54) (cap := #[pt g2 0, pt g38 0]) (f := 54) (args := #[pt g2 0, pt g38 0]) (M := fun w1 => Chg [] w1032 w1) rfl (by kernel_rfl) (span_Do_1_ret g2 g38 w1032) (fun _ => [.agg #[.int .u64 x1008.Lo, .int .u64 x1008.Hi]]) (fun w1 hM => ⟨resCell (hb1033.pure hM) rfl (by kernel_rfl), trivial⟩) (fun w1 hM => ⟨(hC1035.pure hM), (congrArg (fun r : TSpan => (.agg #[.int .u64 r.Lo, .int .u64 r.Hi] : Value)) hs1021).symm⟩)
 have hs1041 := ifF hq928 hs927
 rcases Bool.eq_false_or_eq_true (a0 == (10 : Int)) with hq1042 | hq1042
 ·
  have hs1043 := ifT hq1042 hs1041
  replace hq1042 := bEqT hq1042
  refine WR.valR (dst := some 14) (v := .tuple #[.func (.func 85) #[] #[], .bool true]) (w' := w58) (run_lookup (t := 73) (co := true) (kt := 22) (et := 71) (d := .int .u8) (x := .int .u8 a0) (z := .nilFunc) hb56 (by kernel_rfl) (by kernel_rfl) rfl (some (9, .func (.func 85) #[] #[])) (by rw [hq1042]; rfl) (by kernel_rfl) _ (by kernel_rfl)) ?_
  refine WR.batch 5 [(5, pt g2 0), (6, pt g12 0), (7, pt g24 0), (8, pt g38 0), (9, .func (.func 85) #[] #[]), (10, .bool true)] (by kernel_rfl) ?_
  refine WR.fin (by kernel_rfl) ?_
  refine go hK54 ?_
  refine CW.seq fun K1044 hK1044 => ?_
  refine CW.seq fun K1045 hK1045 => ?_
  refine CW.region ?_
  refine WR.batch 3 [(5, pt g2 0), (6, pt g12 0), (7, pt g24 0), (8, pt g38 0), (9, .func (.func 85) #[] #[]), (19, .bool false)] (by kernel_rfl) ?_
  refine WR.load (dst := some 20) (t := 25) (o := 0) hb63 (by kernel_rfl) (.agg #[.int .u64 a2.Lo, .int .u64 a2.Hi]) (by kernel_rfl) ?_
  obtain ⟨x1046, hx1047⟩ : ∃ x, span_Right a2 = x := ⟨_, rfl⟩
  have hs1048 := letS hx1047 hs1043
  refine WR.call (dst := some 21) (by kernel_rfl) (retE (g := fun r : Bool => (.bool r : Value)) hx1047 (span_Right_any a2 w58  ⟨(by omega), (by omega)⟩ )) ?_
  rintro _ w1049 hc1050 rfl
  have hz1052 := hc1050.size
  have hC1051 := hC60.pure hc1050
  have hb1053 := hb62.pure hc1050
  have hb1054 := hb63.pure hc1050
  have hb1055 := hb64.pure hc1050
  have hb1056 := hb65.pure hc1050
  have hb1057 := hb56.pure hc1050
  refine WR.batch 3 [(5, pt g2 0), (6, pt g12 0), (7, pt g24 0), (8, pt g38 0), (9, .func (.func 85) #[] #[]), (24, .bool (!x1046))] (by kernel_rfl) ?_
  refine WR.mergeW 12 [(5, pt g2 0), (6, pt g12 0), (7, pt g24 0), (8, pt g38 0), (9, .func (.func 85) #[] #[]), (28, .bool ((!x1046) || (!(span_Right a3))))] (fun w' => Chg [] w1049 w') (fun Q' => ?_) ?_
  ·
   cases hg1058 : (!x1046)
   ·
    replace hg1058 : x1046 = true := (bNotF hg1058)
    intro hM1059
    refine WR.load (dst := some 25) (t := 25) (o := 0) hb1055 (by kernel_rfl) (.agg #[.int .u64 a3.Lo, .int .u64 a3.Hi]) (by kernel_rfl) ?_
    refine WR.call (dst := some 26) (by kernel_rfl) (span_Right_any a3 w1049  ⟨(by omega), (by omega)⟩ ) ?_
    rintro _ w1060 hc1061 rfl
    have hz1063 := hc1061.size
    have hC1062 := hC1051.pure hc1061
    have hb1064 := hb1053.pure hc1061
    have hb1065 := hb1054.pure hc1061
    have hb1066 := hb1055.pure hc1061
    have hb1067 := hb1056.pure hc1061
    have hb1068 := hb1057.pure hc1061
    refine WR.batch 2 [(5, pt g2 0), (6, pt g12 0), (7, pt g24 0), (8, pt g38 0), (9, .func (.func 85) #[] #[]), (28, .bool (!(span_Right a3)))] (by kernel_rfl) ?_
    exact WR.keep [5, 6, 7, 8, 9, 28] (by kernel_rfl) (hM1059 _ ((Chg.refl [] w1049).pure hc1061))
   ·
    replace hg1058 : x1046 = false := (bNotT hg1058)
    intro hM1059
    refine WR.batch 4 [(5, pt g2 0), (6, pt g12 0), (7, pt g24 0), (8, pt g38 0), (9, .func (.func 85) #[] #[]), (28, .bool true)] (by kernel_rfl) ?_
    exact WR.keep [5, 6, 7, 8, 9, 28] (by kernel_rfl) (hM1059 _ (Chg.refl [] w1049))
  intro w1069 hc1070
  have hz1072 := hc1070.size
  have hC1071 := hC1051.pure hc1070
  have hb1073 := hb1053.pure hc1070
  have hb1074 := hb1054.pure hc1070
  have hb1075 := hb1055.pure hc1070
  have hb1076 := hb1056.pure hc1070
  have hb1077 := hb1057.pure hc1070
  have hx1078 : (0 ≤ (span_All a1).Lo ∧ (span_All a1).Lo ≤ 18446744073709551615) ∧ (0 ≤ (span_All a1).Hi ∧ (span_All a1).Hi ≤ 18446744073709551615) := span_All_ok a1 
  refine WR.fin (by kernel_rfl) ?_
  refine go hK1045 ?_
  refine CW.cond (((!x1046) || (!(span_Right a3)))) (by kernel_rfl) (fun ht1079 => ?_) (fun ht1079 => ?_)
  ·
   have hs1080 := ifT ht1079 hs1048
   replace ht1079 : (x1046 = false) ∨ ((span_Right a3) = false) := (orMap (bOrT ht1079) (fun h => (bNotT h)) (fun h => (bNotT h)))
   refine CW.seq fun K1081 hK1081 => ?_
   refine CW.region ?_
   refine WR.load (dst := some 29) (t := 4) (o := 0) hb1073 (by kernel_rfl) (.bool a1) (by kernel_rfl) ?_
   obtain ⟨x1082, hx1083⟩ : ∃ x, span_All a1 = x := ⟨_, rfl⟩
   have hs1085 := letS hx1083 hs1080
   have hx1086 : (0 ≤ x1082.Lo ∧ x1082.Lo ≤ 18446744073709551615) ∧ (0 ≤ x1082.Hi ∧ x1082.Hi ≤ 18446744073709551615) := by rw [← hx1083]; exact span_All_ok a1 
   refine WR.call (dst := some 30) (by kernel_rfl) (retE (g := fun r : TSpan => (.agg #[.int .u64 r.Lo, .int .u64 r.Hi] : Value)) hx1083 (span_All_any a1 w1069  )) ?_
   rintro _ w1087 hc1088 rfl
   have hz1090 := hc1088.size
   have hC1089 := hC1071.pure hc1088
   have hb1091 := hb1073.pure hc1088
   have hb1092 := hb1074.pure hc1088
   have hb1093 := hb1075.pure hc1088
   have hb1094 := hb1076.pure hc1088
   have hb1095 := hb1077.pure hc1088
   refine WR.store (t := 25) (o := 0) (v := .agg #[.int .u64 x1082.Lo, .int .u64 x1082.Hi]) hb1094 (by kernel_rfl) #[.int .u64 x1082.Lo, .int .u64 x1082.Hi] (by kernel_rfl) ?_
   intro w1096 hb1097 hc1098
   have hz1100 := hc1098.size
   have hC1099 := hC1089.step1 hc1098 (by omega)
   have hb1101 := hb1091.chg1 hc1098 (by omega)
   have hb1102 := hb1092.chg1 hc1098 (by omega)
   have hb1103 := hb1093.chg1 hc1098 (by omega)
   have hb1104 := hb1095.chg1 hc1098 (by omega)
   refine WR.fin (by kernel_rfl) ?_
   refine go hK1081 ?_
   refine CW.ret ?_
   exact retCD [.agg #[.int .u64 x1082.Lo, .int .u64 x1082.Hi]] (.agg #[.int .u64 x1082.Lo, .int .u64 x1082.Hi]) rfl ⟨resCell hb1097 rfl (by kernel_rfl), trivial⟩ (⟨hC1099, (congrArg (fun r : TSpan => (.agg #[.int .u64 r.Lo, .int .u64 r.Hi] : Value)) hs1085).symm⟩)
  have hs1105 := ifF ht1079 hs1048
  replace ht1079 : (x1046 = true) ∧ ((span_Right a3) = true) := ⟨(bNotF (bOrF ht1079).1), (bNotF (bOrF ht1079).2)⟩
  refine CW.skip ?_
  refine go hK1044 ?_
  refine CW.seq fun K1106 hK1106 => ?_
  refine CW.region ?_
  refine WR.batch 1 [(5, pt g2 0), (6, pt g12 0), (7, pt g24 0), (8, pt g38 0), (9, .func (.func 85) #[] #[]), (31, .func (.func 54) #[] #[pt g2 0, pt g38 0])] (by kernel_rfl) ?_
  refine WR.defer (dst := none) (d := { target := .fn (.func 54) #[pt g2 0, pt g38 0], args := #[] }) (by kernel_rfl) ?_
  refine WR.fin (by kernel_rfl) ?_
  refine go hK1106 ?_
  refine CW.seq fun K1107 hK1107 => ?_
  refine CW.region ?_
  refine WR.batch 1 [(5, pt g2 0), (6, pt g12 0), (7, pt g24 0), (8, pt g38 0), (32, .func (.func 85) #[] #[])] (by kernel_rfl) ?_
  refine WR.load (dst := some 33) (t := 4) (o := 0) hb1073 (by kernel_rfl) (.bool a1) (by kernel_rfl) ?_
  refine WR.load (dst := some 34) (t := 25) (o := 0) hb1074 (by kernel_rfl) (.agg #[.int .u64 a2.Lo, .int .u64 a2.Hi]) (by kernel_rfl) ?_
  refine WR.load (dst := some 35) (t := 25) (o := 0) hb1075 (by kernel_rfl) (.agg #[.int .u64 a3.Lo, .int .u64 a3.Hi]) (by kernel_rfl) ?_
  obtain ⟨x1108, hx1109⟩ : ∃ x, span_over a1 a2 a3 = x := ⟨_, rfl⟩
  have hs1111 := letS hx1109 hs1105
  have hxx1108_ : x1108.size = 32 ∨ x1108.size = 64 := by rw [← hx1109]; exact span_over_size _ _ _
  have hx1112 : (0 ≤ x1108.a.Lo ∧ x1108.a.Lo ≤ 18446744073709551615) ∧ (0 ≤ x1108.a.Hi ∧ x1108.a.Hi ≤ 18446744073709551615) ∧ (0 ≤ x1108.b.Lo ∧ x1108.b.Lo ≤ 18446744073709551615) ∧ (0 ≤ x1108.b.Hi ∧ x1108.b.Hi ≤ 18446744073709551615) ∧ (0 ≤ x1108.most ∧ x1108.most ≤ 18446744073709551615) ∧ (0 ≤ x1108.size ∧ x1108.size ≤ 18446744073709551615) := by rw [← hx1109]; exact span_over_ok a1 a2 a3 ⟨(by omega), (by omega)⟩ ⟨(by omega), (by omega)⟩ 
  refine WR.call (dst := some 36) (by kernel_rfl) (retE (g := fun r : Twork => (.agg #[.int .u64 r.a.Lo, .int .u64 r.a.Hi, .int .u64 r.b.Lo, .int .u64 r.b.Hi, .bool r.narrow, .int .u64 r.most, .int .u64 r.size] : Value)) hx1109 (span_over_any a1 a2 a3 w1069  ⟨(by omega), (by omega)⟩ ⟨(by omega), (by omega)⟩ )) ?_
  rintro _ w1113 hc1114 rfl
  have hz1116 := hc1114.size
  have hC1115 := hC1071.pure hc1114
  have hb1117 := hb1073.pure hc1114
  have hb1118 := hb1074.pure hc1114
  have hb1119 := hb1075.pure hc1114
  have hb1120 := hb1076.pure hc1114
  have hb1121 := hb1077.pure hc1114
  obtain ⟨x1122, hx1123⟩ : ∃ x, span_work_shr x1108 = x := ⟨_, rfl⟩
  have hs1125 := letS hx1123 hs1111
  have hx1126 : (0 ≤ x1122.Lo ∧ x1122.Lo ≤ 18446744073709551615) ∧ (0 ≤ x1122.Hi ∧ x1122.Hi ≤ 18446744073709551615) := by rw [← hx1123]; exact span_work_shr_ok x1108 ⟨(by omega), (by omega), (by omega), (by omega), (by omega), (by omega)⟩ (by omega)
  refine WR.call (dst := some 37) (by kernel_rfl) (retE (g := fun r : TSpan => (.agg #[.int .u64 r.Lo, .int .u64 r.Hi] : Value)) hx1123 (span_work_shr_any x1108 w1113  ⟨(by omega), (by omega), (by omega), (by omega), (by omega), (by omega)⟩ (by omega))) ?_
  rintro _ w1127 hc1128 rfl
  have hz1130 := hc1128.size
  have hC1129 := hC1115.pure hc1128
  have hb1131 := hb1117.pure hc1128
  have hb1132 := hb1118.pure hc1128
  have hb1133 := hb1119.pure hc1128
  have hb1134 := hb1120.pure hc1128
  have hb1135 := hb1121.pure hc1128
  refine WR.store (t := 25) (o := 0) (v := .agg #[.int .u64 x1122.Lo, .int .u64 x1122.Hi]) hb1134 (by kernel_rfl) #[.int .u64 x1122.Lo, .int .u64 x1122.Hi] (by kernel_rfl) ?_
  intro w1136 hb1137 hc1138
  have hz1140 := hc1138.size
  have hC1139 := hC1129.step1 hc1138 (by omega)
  have hb1141 := hb1131.chg1 hc1138 (by omega)
  have hb1142 := hb1132.chg1 hc1138 (by omega)
  have hb1143 := hb1133.chg1 hc1138 (by omega)
  have hb1144 := hb1135.chg1 hc1138 (by omega)
  refine WR.fin (by kernel_rfl) ?_
  refine go hK1107 ?_
  refine CW.ret ?_
  exact retD (P := Try.prog) (fn := Try.f19) (d := { target := .fn (.func 54) #[pt g2 0, pt g38 0], args := #[] }) (fv := .func 54) (cap := #[pt g2 0, pt g38 0]) (f := 54) (args := #[pt g2 0, pt g38 0]) (M := fun w1 => Chg [] w1136 w1) rfl (by kernel_rfl) (span_Do_1_ret g2 g38 w1136) (fun _ => [.agg #[.int .u64 x1122.Lo, .int .u64 x1122.Hi]]) (fun w1 hM => ⟨resCell (hb1137.pure hM) rfl (by kernel_rfl), trivial⟩) (fun w1 hM => ⟨(hC1139.pure hM), (congrArg (fun r : TSpan => (.agg #[.int .u64 r.Lo, .int .u64 r.Hi] : Value)) hs1125).symm⟩)
 have hs1145 := ifF hq1042 hs1041
 rcases Bool.eq_false_or_eq_true (a0 == (11 : Int)) with hq1146 | hq1146
 ·
  have hs1147 := ifT hq1146 hs1145
  replace hq1146 := bEqT hq1146
  refine WR.valR (dst := some 14) (v := .tuple #[.func (.func 86) #[] #[], .bool true]) (w' := w58) (run_lookup (t := 73) (co := true) (kt := 22) (et := 71) (d := .int .u8) (x := .int .u8 a0) (z := .nilFunc) hb56 (by kernel_rfl) (by kernel_rfl) rfl (some (10, .func (.func 86) #[] #[])) (by rw [hq1146]; rfl) (by kernel_rfl) _ (by kernel_rfl)) ?_
  refine WR.batch 5 [(5, pt g2 0), (6, pt g12 0), (7, pt g24 0), (8, pt g38 0), (9, .func (.func 86) #[] #[]), (10, .bool true)] (by kernel_rfl) ?_
  refine WR.fin (by kernel_rfl) ?_
  refine go hK54 ?_
  refine CW.seq fun K1148 hK1148 => ?_
  refine CW.seq fun K1149 hK1149 => ?_
  refine CW.region ?_
  refine WR.batch 3 [(5, pt g2 0), (6, pt g12 0), (7, pt g24 0), (8, pt g38 0), (9, .func (.func 86) #[] #[]), (19, .bool false)] (by kernel_rfl) ?_
  refine WR.load (dst := some 20) (t := 25) (o := 0) hb63 (by kernel_rfl) (.agg #[.int .u64 a2.Lo, .int .u64 a2.Hi]) (by kernel_rfl) ?_
  obtain ⟨x1150, hx1151⟩ : ∃ x, span_Right a2 = x := ⟨_, rfl⟩
  have hs1152 := letS hx1151 hs1147
  refine WR.call (dst := some 21) (by kernel_rfl) (retE (g := fun r : Bool => (.bool r : Value)) hx1151 (span_Right_any a2 w58  ⟨(by omega), (by omega)⟩ )) ?_
  rintro _ w1153 hc1154 rfl
  have hz1156 := hc1154.size
  have hC1155 := hC60.pure hc1154
  have hb1157 := hb62.pure hc1154
  have hb1158 := hb63.pure hc1154
  have hb1159 := hb64.pure hc1154
  have hb1160 := hb65.pure hc1154
  have hb1161 := hb56.pure hc1154
  refine WR.batch 3 [(5, pt g2 0), (6, pt g12 0), (7, pt g24 0), (8, pt g38 0), (9, .func (.func 86) #[] #[]), (24, .bool (!x1150))] (by kernel_rfl) ?_
  refine WR.mergeW 12 [(5, pt g2 0), (6, pt g12 0), (7, pt g24 0), (8, pt g38 0), (9, .func (.func 86) #[] #[]), (28, .bool ((!x1150) || (!(span_Right a3))))] (fun w' => Chg [] w1153 w') (fun Q' => ?_) ?_
  ·
   cases hg1162 : (!x1150)
   ·
    replace hg1162 : x1150 = true := (bNotF hg1162)
    intro hM1163
    refine WR.load (dst := some 25) (t := 25) (o := 0) hb1159 (by kernel_rfl) (.agg #[.int .u64 a3.Lo, .int .u64 a3.Hi]) (by kernel_rfl) ?_
    refine WR.call (dst := some 26) (by kernel_rfl) (span_Right_any a3 w1153  ⟨(by omega), (by omega)⟩ ) ?_
    rintro _ w1164 hc1165 rfl
    have hz1167 := hc1165.size
    have hC1166 := hC1155.pure hc1165
    have hb1168 := hb1157.pure hc1165
    have hb1169 := hb1158.pure hc1165
    have hb1170 := hb1159.pure hc1165
    have hb1171 := hb1160.pure hc1165
    have hb1172 := hb1161.pure hc1165
    refine WR.batch 2 [(5, pt g2 0), (6, pt g12 0), (7, pt g24 0), (8, pt g38 0), (9, .func (.func 86) #[] #[]), (28, .bool (!(span_Right a3)))] (by kernel_rfl) ?_
    exact WR.keep [5, 6, 7, 8, 9, 28] (by kernel_rfl) (hM1163 _ ((Chg.refl [] w1153).pure hc1165))
   ·
    replace hg1162 : x1150 = false := (bNotT hg1162)
    intro hM1163
    refine WR.batch 4 [(5, pt g2 0), (6, pt g12 0), (7, pt g24 0), (8, pt g38 0), (9, .func (.func 86) #[] #[]), (28, .bool true)] (by kernel_rfl) ?_
    exact WR.keep [5, 6, 7, 8, 9, 28] (by kernel_rfl) (hM1163 _ (Chg.refl [] w1153))
  intro w1173 hc1174
  have hz1176 := hc1174.size
  have hC1175 := hC1155.pure hc1174
  have hb1177 := hb1157.pure hc1174
  have hb1178 := hb1158.pure hc1174
  have hb1179 := hb1159.pure hc1174
  have hb1180 := hb1160.pure hc1174
  have hb1181 := hb1161.pure hc1174
  have hx1182 : (0 ≤ (span_All a1).Lo ∧ (span_All a1).Lo ≤ 18446744073709551615) ∧ (0 ≤ (span_All a1).Hi ∧ (span_All a1).Hi ≤ 18446744073709551615) := span_All_ok a1 
  refine WR.fin (by kernel_rfl) ?_
  refine go hK1149 ?_
  refine CW.cond (((!x1150) || (!(span_Right a3)))) (by kernel_rfl) (fun ht1183 => ?_) (fun ht1183 => ?_)
  ·
   have hs1184 := ifT ht1183 hs1152
   replace ht1183 : (x1150 = false) ∨ ((span_Right a3) = false) := (orMap (bOrT ht1183) (fun h => (bNotT h)) (fun h => (bNotT h)))
   refine CW.seq fun K1185 hK1185 => ?_
   refine CW.region ?_
   refine WR.load (dst := some 29) (t := 4) (o := 0) hb1177 (by kernel_rfl) (.bool a1) (by kernel_rfl) ?_
   obtain ⟨x1186, hx1187⟩ : ∃ x, span_All a1 = x := ⟨_, rfl⟩
   have hs1189 := letS hx1187 hs1184
   have hx1190 : (0 ≤ x1186.Lo ∧ x1186.Lo ≤ 18446744073709551615) ∧ (0 ≤ x1186.Hi ∧ x1186.Hi ≤ 18446744073709551615) := by rw [← hx1187]; exact span_All_ok a1 
   refine WR.call (dst := some 30) (by kernel_rfl) (retE (g := fun r : TSpan => (.agg #[.int .u64 r.Lo, .int .u64 r.Hi] : Value)) hx1187 (span_All_any a1 w1173  )) ?_
   rintro _ w1191 hc1192 rfl
   have hz1194 := hc1192.size
   have hC1193 := hC1175.pure hc1192
   have hb1195 := hb1177.pure hc1192
   have hb1196 := hb1178.pure hc1192
   have hb1197 := hb1179.pure hc1192
   have hb1198 := hb1180.pure hc1192
   have hb1199 := hb1181.pure hc1192
   refine WR.store (t := 25) (o := 0) (v := .agg #[.int .u64 x1186.Lo, .int .u64 x1186.Hi]) hb1198 (by kernel_rfl) #[.int .u64 x1186.Lo, .int .u64 x1186.Hi] (by kernel_rfl) ?_
   intro w1200 hb1201 hc1202
   have hz1204 := hc1202.size
   have hC1203 := hC1193.step1 hc1202 (by omega)
   have hb1205 := hb1195.chg1 hc1202 (by omega)
   have hb1206 := hb1196.chg1 hc1202 (by omega)
   have hb1207 := hb1197.chg1 hc1202 (by omega)
   have hb1208 := hb1199.chg1 hc1202 (by omega)
   refine WR.fin (by kernel_rfl) ?_
   refine go hK1185 ?_
   refine CW.ret ?_
   exact retCD [.agg #[.int .u64 x1186.Lo, .int .u64 x1186.Hi]] (.agg #[.int .u64 x1186.Lo, .int .u64 x1186.Hi]) rfl ⟨resCell hb1201 rfl (by kernel_rfl), trivial⟩ (⟨hC1203, (congrArg (fun r : TSpan => (.agg #[.int .u64 r.Lo, .int .u64 r.Hi] : Value)) hs1189).symm⟩)
  have hs1209 := ifF ht1183 hs1152
  replace ht1183 : (x1150 = true) ∧ ((span_Right a3) = true) := ⟨(bNotF (bOrF ht1183).1), (bNotF (bOrF ht1183).2)⟩
  refine CW.skip ?_
  refine go hK1148 ?_
  refine CW.seq fun K1210 hK1210 => ?_
  refine CW.region ?_
  refine WR.batch 1 [(5, pt g2 0), (6, pt g12 0), (7, pt g24 0), (8, pt g38 0), (9, .func (.func 86) #[] #[]), (31, .func (.func 54) #[] #[pt g2 0, pt g38 0])] (by kernel_rfl) ?_
  refine WR.defer (dst := none) (d := { target := .fn (.func 54) #[pt g2 0, pt g38 0], args := #[] }) (by kernel_rfl) ?_
  refine WR.fin (by kernel_rfl) ?_
  refine go hK1210 ?_
  refine CW.seq fun K1211 hK1211 => ?_
  refine CW.region ?_
  refine WR.batch 1 [(5, pt g2 0), (6, pt g12 0), (7, pt g24 0), (8, pt g38 0), (32, .func (.func 86) #[] #[])] (by kernel_rfl) ?_
  refine WR.load (dst := some 33) (t := 4) (o := 0) hb1177 (by kernel_rfl) (.bool a1) (by kernel_rfl) ?_
  refine WR.load (dst := some 34) (t := 25) (o := 0) hb1178 (by kernel_rfl) (.agg #[.int .u64 a2.Lo, .int .u64 a2.Hi]) (by kernel_rfl) ?_
  refine WR.load (dst := some 35) (t := 25) (o := 0) hb1179 (by kernel_rfl) (.agg #[.int .u64 a3.Lo, .int .u64 a3.Hi]) (by kernel_rfl) ?_
  obtain ⟨x1212, hx1213⟩ : ∃ x, span_over a1 a2 a3 = x := ⟨_, rfl⟩
  have hs1215 := letS hx1213 hs1209
  have hxx1212_ : x1212.size = 32 ∨ x1212.size = 64 := by rw [← hx1213]; exact span_over_size _ _ _
  have hx1216 : (0 ≤ x1212.a.Lo ∧ x1212.a.Lo ≤ 18446744073709551615) ∧ (0 ≤ x1212.a.Hi ∧ x1212.a.Hi ≤ 18446744073709551615) ∧ (0 ≤ x1212.b.Lo ∧ x1212.b.Lo ≤ 18446744073709551615) ∧ (0 ≤ x1212.b.Hi ∧ x1212.b.Hi ≤ 18446744073709551615) ∧ (0 ≤ x1212.most ∧ x1212.most ≤ 18446744073709551615) ∧ (0 ≤ x1212.size ∧ x1212.size ≤ 18446744073709551615) := by rw [← hx1213]; exact span_over_ok a1 a2 a3 ⟨(by omega), (by omega)⟩ ⟨(by omega), (by omega)⟩ 
  refine WR.call (dst := some 36) (by kernel_rfl) (retE (g := fun r : Twork => (.agg #[.int .u64 r.a.Lo, .int .u64 r.a.Hi, .int .u64 r.b.Lo, .int .u64 r.b.Hi, .bool r.narrow, .int .u64 r.most, .int .u64 r.size] : Value)) hx1213 (span_over_any a1 a2 a3 w1173  ⟨(by omega), (by omega)⟩ ⟨(by omega), (by omega)⟩ )) ?_
  rintro _ w1217 hc1218 rfl
  have hz1220 := hc1218.size
  have hC1219 := hC1175.pure hc1218
  have hb1221 := hb1177.pure hc1218
  have hb1222 := hb1178.pure hc1218
  have hb1223 := hb1179.pure hc1218
  have hb1224 := hb1180.pure hc1218
  have hb1225 := hb1181.pure hc1218
  rcases hx1227 : span_work_sar x1212 with _ | x1226
  ·
   have hs1231 := optN hx1227 hs1215
   refine WR.callX (dst := some 37) (by kernel_rfl) (retP_no (g := fun r : TSpan => (.agg #[.int .u64 r.Lo, .int .u64 r.Hi] : Value)) hx1227 (span_work_sar_any x1212 w1217  ⟨(by omega), (by omega), (by omega), (by omega), (by omega), (by omega)⟩ )) ?_
   intro w1229 hc1230
   have hz1233 := hc1230.size
   have hC1232 := hC1219.pure hc1230
   have hb1234 := hb1221.pure hc1230
   have hb1235 := hb1222.pure hc1230
   have hb1236 := hb1223.pure hc1230
   have hb1237 := hb1224.pure hc1230
   have hb1238 := hb1225.pure hc1230
   exact panicD (P := Try.prog) (fn := Try.f19) (d := { target := .fn (.func 54) #[pt g2 0, pt g38 0], args := #[] }) (fv := .func 54) (cap := #[pt g2 0, pt g38 0]) (f := 54) (args := #[pt g2 0, pt g38 0]) (M := fun w1 => Chg [g38] w1229 w1 ∧ Blk w1 g2 #[.bool a1] 4 ∧ Blk w1 g38 #[.int .u64 (span_All a1).Lo, .int .u64 (span_All a1).Hi] 25) (x := .iface 76 (.agg #[])) rfl (by kernel_rfl) (span_Do_1_pan a1 (⟨(0 : Int), (0 : Int)⟩ : TSpan) g2 g38 w1229 hb1234 hb1237 (by omega)) (fun _ => [.agg #[.int .u64 (span_All a1).Lo, .int .u64 (span_All a1).Hi]]) (fun w1 hM => ⟨resCell hM.2.2 rfl (by kernel_rfl), trivial⟩) (fun w1 hM => ⟨hC1232.step hM.1 (by intro t ht; simp only [List.mem_cons, List.not_mem_nil, or_false] at ht; subst ht; first | exact .inr (by omega) | exact .inl (by simp)), (congrArg (fun r : TSpan => (.agg #[.int .u64 r.Lo, .int .u64 r.Hi] : Value)) hs1231).symm⟩)
  have hs1239 := optS hx1227 hs1215
  have hx1240 : (0 ≤ x1226.Lo ∧ x1226.Lo ≤ 18446744073709551615) ∧ (0 ≤ x1226.Hi ∧ x1226.Hi ≤ 18446744073709551615) := by exact span_work_sar_ok x1212 ⟨(by omega), (by omega), (by omega), (by omega), (by omega), (by omega)⟩  _ hx1227
  refine WR.call (dst := some 37) (by kernel_rfl) (retP_yes (g := fun r : TSpan => (.agg #[.int .u64 r.Lo, .int .u64 r.Hi] : Value)) hx1227 (span_work_sar_any x1212 w1217  ⟨(by omega), (by omega), (by omega), (by omega), (by omega), (by omega)⟩ )) ?_
  rintro _ w1241 hc1242 rfl
  have hz1244 := hc1242.size
  have hC1243 := hC1219.pure hc1242
  have hb1245 := hb1221.pure hc1242
  have hb1246 := hb1222.pure hc1242
  have hb1247 := hb1223.pure hc1242
  have hb1248 := hb1224.pure hc1242
  have hb1249 := hb1225.pure hc1242
  refine WR.store (t := 25) (o := 0) (v := .agg #[.int .u64 x1226.Lo, .int .u64 x1226.Hi]) hb1248 (by kernel_rfl) #[.int .u64 x1226.Lo, .int .u64 x1226.Hi] (by kernel_rfl) ?_
  intro w1250 hb1251 hc1252
  have hz1254 := hc1252.size
  have hC1253 := hC1243.step1 hc1252 (by omega)
  have hb1255 := hb1245.chg1 hc1252 (by omega)
  have hb1256 := hb1246.chg1 hc1252 (by omega)
  have hb1257 := hb1247.chg1 hc1252 (by omega)
  have hb1258 := hb1249.chg1 hc1252 (by omega)
  refine WR.fin (by kernel_rfl) ?_
  refine go hK1211 ?_
  refine CW.ret ?_
  exact retD (P := Try.prog) (fn := Try.f19) (d := { target := .fn (.func 54) #[pt g2 0, pt g38 0], args := #[] }) (fv := .func 54) (cap := #[pt g2 0, pt g38 0]) (f := 54) (args := #[pt g2 0, pt g38 0]) (M := fun w1 => Chg [] w1250 w1) rfl (by kernel_rfl) (span_Do_1_ret g2 g38 w1250) (fun _ => [.agg #[.int .u64 x1226.Lo, .int .u64 x1226.Hi]]) (fun w1 hM => ⟨resCell (hb1251.pure hM) rfl (by kernel_rfl), trivial⟩) (fun w1 hM => ⟨(hC1253.pure hM), (congrArg (fun r : TSpan => (.agg #[.int .u64 r.Lo, .int .u64 r.Hi] : Value)) hs1239).symm⟩)
 have hs1259 := ifF hq1146 hs1145
 rcases Bool.eq_false_or_eq_true (a0 == (12 : Int)) with hq1260 | hq1260
 ·
  have hs1261 := ifT hq1260 hs1259
  replace hq1260 := bEqT hq1260
  refine WR.valR (dst := some 14) (v := .tuple #[.func (.func 87) #[] #[], .bool true]) (w' := w58) (run_lookup (t := 73) (co := true) (kt := 22) (et := 71) (d := .int .u8) (x := .int .u8 a0) (z := .nilFunc) hb56 (by kernel_rfl) (by kernel_rfl) rfl (some (11, .func (.func 87) #[] #[])) (by rw [hq1260]; rfl) (by kernel_rfl) _ (by kernel_rfl)) ?_
  refine WR.batch 5 [(5, pt g2 0), (6, pt g12 0), (7, pt g24 0), (8, pt g38 0), (9, .func (.func 87) #[] #[]), (10, .bool true)] (by kernel_rfl) ?_
  refine WR.fin (by kernel_rfl) ?_
  refine go hK54 ?_
  refine CW.seq fun K1262 hK1262 => ?_
  refine CW.seq fun K1263 hK1263 => ?_
  refine CW.region ?_
  refine WR.batch 3 [(5, pt g2 0), (6, pt g12 0), (7, pt g24 0), (8, pt g38 0), (9, .func (.func 87) #[] #[]), (19, .bool false)] (by kernel_rfl) ?_
  refine WR.load (dst := some 20) (t := 25) (o := 0) hb63 (by kernel_rfl) (.agg #[.int .u64 a2.Lo, .int .u64 a2.Hi]) (by kernel_rfl) ?_
  obtain ⟨x1264, hx1265⟩ : ∃ x, span_Right a2 = x := ⟨_, rfl⟩
  have hs1266 := letS hx1265 hs1261
  refine WR.call (dst := some 21) (by kernel_rfl) (retE (g := fun r : Bool => (.bool r : Value)) hx1265 (span_Right_any a2 w58  ⟨(by omega), (by omega)⟩ )) ?_
  rintro _ w1267 hc1268 rfl
  have hz1270 := hc1268.size
  have hC1269 := hC60.pure hc1268
  have hb1271 := hb62.pure hc1268
  have hb1272 := hb63.pure hc1268
  have hb1273 := hb64.pure hc1268
  have hb1274 := hb65.pure hc1268
  have hb1275 := hb56.pure hc1268
  refine WR.batch 3 [(5, pt g2 0), (6, pt g12 0), (7, pt g24 0), (8, pt g38 0), (9, .func (.func 87) #[] #[]), (24, .bool (!x1264))] (by kernel_rfl) ?_
  refine WR.mergeW 12 [(5, pt g2 0), (6, pt g12 0), (7, pt g24 0), (8, pt g38 0), (9, .func (.func 87) #[] #[]), (28, .bool ((!x1264) || (!(span_Right a3))))] (fun w' => Chg [] w1267 w') (fun Q' => ?_) ?_
  ·
   cases hg1276 : (!x1264)
   ·
    replace hg1276 : x1264 = true := (bNotF hg1276)
    intro hM1277
    refine WR.load (dst := some 25) (t := 25) (o := 0) hb1273 (by kernel_rfl) (.agg #[.int .u64 a3.Lo, .int .u64 a3.Hi]) (by kernel_rfl) ?_
    refine WR.call (dst := some 26) (by kernel_rfl) (span_Right_any a3 w1267  ⟨(by omega), (by omega)⟩ ) ?_
    rintro _ w1278 hc1279 rfl
    have hz1281 := hc1279.size
    have hC1280 := hC1269.pure hc1279
    have hb1282 := hb1271.pure hc1279
    have hb1283 := hb1272.pure hc1279
    have hb1284 := hb1273.pure hc1279
    have hb1285 := hb1274.pure hc1279
    have hb1286 := hb1275.pure hc1279
    refine WR.batch 2 [(5, pt g2 0), (6, pt g12 0), (7, pt g24 0), (8, pt g38 0), (9, .func (.func 87) #[] #[]), (28, .bool (!(span_Right a3)))] (by kernel_rfl) ?_
    exact WR.keep [5, 6, 7, 8, 9, 28] (by kernel_rfl) (hM1277 _ ((Chg.refl [] w1267).pure hc1279))
   ·
    replace hg1276 : x1264 = false := (bNotT hg1276)
    intro hM1277
    refine WR.batch 4 [(5, pt g2 0), (6, pt g12 0), (7, pt g24 0), (8, pt g38 0), (9, .func (.func 87) #[] #[]), (28, .bool true)] (by kernel_rfl) ?_
    exact WR.keep [5, 6, 7, 8, 9, 28] (by kernel_rfl) (hM1277 _ (Chg.refl [] w1267))
  intro w1287 hc1288
  have hz1290 := hc1288.size
  have hC1289 := hC1269.pure hc1288
  have hb1291 := hb1271.pure hc1288
  have hb1292 := hb1272.pure hc1288
  have hb1293 := hb1273.pure hc1288
  have hb1294 := hb1274.pure hc1288
  have hb1295 := hb1275.pure hc1288
  have hx1296 : (0 ≤ (span_All a1).Lo ∧ (span_All a1).Lo ≤ 18446744073709551615) ∧ (0 ≤ (span_All a1).Hi ∧ (span_All a1).Hi ≤ 18446744073709551615) := span_All_ok a1 
  refine WR.fin (by kernel_rfl) ?_
  refine go hK1263 ?_
  refine CW.cond (((!x1264) || (!(span_Right a3)))) (by kernel_rfl) (fun ht1297 => ?_) (fun ht1297 => ?_)
  ·
   have hs1298 := ifT ht1297 hs1266
   replace ht1297 : (x1264 = false) ∨ ((span_Right a3) = false) := (orMap (bOrT ht1297) (fun h => (bNotT h)) (fun h => (bNotT h)))
   refine CW.seq fun K1299 hK1299 => ?_
   refine CW.region ?_
   refine WR.load (dst := some 29) (t := 4) (o := 0) hb1291 (by kernel_rfl) (.bool a1) (by kernel_rfl) ?_
   obtain ⟨x1300, hx1301⟩ : ∃ x, span_All a1 = x := ⟨_, rfl⟩
   have hs1303 := letS hx1301 hs1298
   have hx1304 : (0 ≤ x1300.Lo ∧ x1300.Lo ≤ 18446744073709551615) ∧ (0 ≤ x1300.Hi ∧ x1300.Hi ≤ 18446744073709551615) := by rw [← hx1301]; exact span_All_ok a1 
   refine WR.call (dst := some 30) (by kernel_rfl) (retE (g := fun r : TSpan => (.agg #[.int .u64 r.Lo, .int .u64 r.Hi] : Value)) hx1301 (span_All_any a1 w1287  )) ?_
   rintro _ w1305 hc1306 rfl
   have hz1308 := hc1306.size
   have hC1307 := hC1289.pure hc1306
   have hb1309 := hb1291.pure hc1306
   have hb1310 := hb1292.pure hc1306
   have hb1311 := hb1293.pure hc1306
   have hb1312 := hb1294.pure hc1306
   have hb1313 := hb1295.pure hc1306
   refine WR.store (t := 25) (o := 0) (v := .agg #[.int .u64 x1300.Lo, .int .u64 x1300.Hi]) hb1312 (by kernel_rfl) #[.int .u64 x1300.Lo, .int .u64 x1300.Hi] (by kernel_rfl) ?_
   intro w1314 hb1315 hc1316
   have hz1318 := hc1316.size
   have hC1317 := hC1307.step1 hc1316 (by omega)
   have hb1319 := hb1309.chg1 hc1316 (by omega)
   have hb1320 := hb1310.chg1 hc1316 (by omega)
   have hb1321 := hb1311.chg1 hc1316 (by omega)
   have hb1322 := hb1313.chg1 hc1316 (by omega)
   refine WR.fin (by kernel_rfl) ?_
   refine go hK1299 ?_
   refine CW.ret ?_
   exact retCD [.agg #[.int .u64 x1300.Lo, .int .u64 x1300.Hi]] (.agg #[.int .u64 x1300.Lo, .int .u64 x1300.Hi]) rfl ⟨resCell hb1315 rfl (by kernel_rfl), trivial⟩ (⟨hC1317, (congrArg (fun r : TSpan => (.agg #[.int .u64 r.Lo, .int .u64 r.Hi] : Value)) hs1303).symm⟩)
  have hs1323 := ifF ht1297 hs1266
  replace ht1297 : (x1264 = true) ∧ ((span_Right a3) = true) := ⟨(bNotF (bOrF ht1297).1), (bNotF (bOrF ht1297).2)⟩
  refine CW.skip ?_
  refine go hK1262 ?_
  refine CW.seq fun K1324 hK1324 => ?_
  refine CW.region ?_
  refine WR.batch 1 [(5, pt g2 0), (6, pt g12 0), (7, pt g24 0), (8, pt g38 0), (9, .func (.func 87) #[] #[]), (31, .func (.func 54) #[] #[pt g2 0, pt g38 0])] (by kernel_rfl) ?_
  refine WR.defer (dst := none) (d := { target := .fn (.func 54) #[pt g2 0, pt g38 0], args := #[] }) (by kernel_rfl) ?_
  refine WR.fin (by kernel_rfl) ?_
  refine go hK1324 ?_
  refine CW.seq fun K1325 hK1325 => ?_
  refine CW.region ?_
  refine WR.batch 1 [(5, pt g2 0), (6, pt g12 0), (7, pt g24 0), (8, pt g38 0), (32, .func (.func 87) #[] #[])] (by kernel_rfl) ?_
  refine WR.load (dst := some 33) (t := 4) (o := 0) hb1291 (by kernel_rfl) (.bool a1) (by kernel_rfl) ?_
  refine WR.load (dst := some 34) (t := 25) (o := 0) hb1292 (by kernel_rfl) (.agg #[.int .u64 a2.Lo, .int .u64 a2.Hi]) (by kernel_rfl) ?_
  refine WR.load (dst := some 35) (t := 25) (o := 0) hb1293 (by kernel_rfl) (.agg #[.int .u64 a3.Lo, .int .u64 a3.Hi]) (by kernel_rfl) ?_
  obtain ⟨x1326, hx1327⟩ : ∃ x, span_over a1 a2 a3 = x := ⟨_, rfl⟩
  have hs1329 := letS hx1327 hs1323
  have hxx1326_ : x1326.size = 32 ∨ x1326.size = 64 := by rw [← hx1327]; exact span_over_size _ _ _
  have hx1330 : (0 ≤ x1326.a.Lo ∧ x1326.a.Lo ≤ 18446744073709551615) ∧ (0 ≤ x1326.a.Hi ∧ x1326.a.Hi ≤ 18446744073709551615) ∧ (0 ≤ x1326.b.Lo ∧ x1326.b.Lo ≤ 18446744073709551615) ∧ (0 ≤ x1326.b.Hi ∧ x1326.b.Hi ≤ 18446744073709551615) ∧ (0 ≤ x1326.most ∧ x1326.most ≤ 18446744073709551615) ∧ (0 ≤ x1326.size ∧ x1326.size ≤ 18446744073709551615) := by rw [← hx1327]; exact span_over_ok a1 a2 a3 ⟨(by omega), (by omega)⟩ ⟨(by omega), (by omega)⟩ 
  refine WR.call (dst := some 36) (by kernel_rfl) (retE (g := fun r : Twork => (.agg #[.int .u64 r.a.Lo, .int .u64 r.a.Hi, .int .u64 r.b.Lo, .int .u64 r.b.Hi, .bool r.narrow, .int .u64 r.most, .int .u64 r.size] : Value)) hx1327 (span_over_any a1 a2 a3 w1287  ⟨(by omega), (by omega)⟩ ⟨(by omega), (by omega)⟩ )) ?_
  rintro _ w1331 hc1332 rfl
  have hz1334 := hc1332.size
  have hC1333 := hC1289.pure hc1332
  have hb1335 := hb1291.pure hc1332
  have hb1336 := hb1292.pure hc1332
  have hb1337 := hb1293.pure hc1332
  have hb1338 := hb1294.pure hc1332
  have hb1339 := hb1295.pure hc1332
  obtain ⟨x1340, hx1341⟩ : ∃ x, span_work_mov x1326 = x := ⟨_, rfl⟩
  have hs1343 := letS hx1341 hs1329
  have hx1344 : (0 ≤ x1340.Lo ∧ x1340.Lo ≤ 18446744073709551615) ∧ (0 ≤ x1340.Hi ∧ x1340.Hi ≤ 18446744073709551615) := by rw [← hx1341]; exact span_work_mov_ok x1326 ⟨(by omega), (by omega), (by omega), (by omega), (by omega), (by omega)⟩ 
  refine WR.call (dst := some 37) (by kernel_rfl) (retE (g := fun r : TSpan => (.agg #[.int .u64 r.Lo, .int .u64 r.Hi] : Value)) hx1341 (span_work_mov_any x1326 w1331  ⟨(by omega), (by omega), (by omega), (by omega), (by omega), (by omega)⟩ )) ?_
  rintro _ w1345 hc1346 rfl
  have hz1348 := hc1346.size
  have hC1347 := hC1333.pure hc1346
  have hb1349 := hb1335.pure hc1346
  have hb1350 := hb1336.pure hc1346
  have hb1351 := hb1337.pure hc1346
  have hb1352 := hb1338.pure hc1346
  have hb1353 := hb1339.pure hc1346
  refine WR.store (t := 25) (o := 0) (v := .agg #[.int .u64 x1340.Lo, .int .u64 x1340.Hi]) hb1352 (by kernel_rfl) #[.int .u64 x1340.Lo, .int .u64 x1340.Hi] (by kernel_rfl) ?_
  intro w1354 hb1355 hc1356
  have hz1358 := hc1356.size
  have hC1357 := hC1347.step1 hc1356 (by omega)
  have hb1359 := hb1349.chg1 hc1356 (by omega)
  have hb1360 := hb1350.chg1 hc1356 (by omega)
  have hb1361 := hb1351.chg1 hc1356 (by omega)
  have hb1362 := hb1353.chg1 hc1356 (by omega)
  refine WR.fin (by kernel_rfl) ?_
  refine go hK1325 ?_
  refine CW.ret ?_
  exact retD (P := Try.prog) (fn := Try.f19) (d := { target := .fn (.func 54) #[pt g2 0, pt g38 0], args := #[] }) (fv := .func 54) (cap := #[pt g2 0, pt g38 0]) (f := 54) (args := #[pt g2 0, pt g38 0]) (M := fun w1 => Chg [] w1354 w1) rfl (by kernel_rfl) (span_Do_1_ret g2 g38 w1354) (fun _ => [.agg #[.int .u64 x1340.Lo, .int .u64 x1340.Hi]]) (fun w1 hM => ⟨resCell (hb1355.pure hM) rfl (by kernel_rfl), trivial⟩) (fun w1 hM => ⟨(hC1357.pure hM), (congrArg (fun r : TSpan => (.agg #[.int .u64 r.Lo, .int .u64 r.Hi] : Value)) hs1343).symm⟩)
 have hs1363 := ifF hq1260 hs1259
 rcases Bool.eq_false_or_eq_true (a0 == (13 : Int)) with hq1364 | hq1364
 ·
  have hs1365 := ifT hq1364 hs1363
  replace hq1364 := bEqT hq1364
  refine WR.valR (dst := some 14) (v := .tuple #[.func (.func 88) #[] #[], .bool true]) (w' := w58) (run_lookup (t := 73) (co := true) (kt := 22) (et := 71) (d := .int .u8) (x := .int .u8 a0) (z := .nilFunc) hb56 (by kernel_rfl) (by kernel_rfl) rfl (some (12, .func (.func 88) #[] #[])) (by rw [hq1364]; rfl) (by kernel_rfl) _ (by kernel_rfl)) ?_
  refine WR.batch 5 [(5, pt g2 0), (6, pt g12 0), (7, pt g24 0), (8, pt g38 0), (9, .func (.func 88) #[] #[]), (10, .bool true)] (by kernel_rfl) ?_
  refine WR.fin (by kernel_rfl) ?_
  refine go hK54 ?_
  refine CW.seq fun K1366 hK1366 => ?_
  refine CW.seq fun K1367 hK1367 => ?_
  refine CW.region ?_
  refine WR.batch 3 [(5, pt g2 0), (6, pt g12 0), (7, pt g24 0), (8, pt g38 0), (9, .func (.func 88) #[] #[]), (19, .bool false)] (by kernel_rfl) ?_
  refine WR.load (dst := some 20) (t := 25) (o := 0) hb63 (by kernel_rfl) (.agg #[.int .u64 a2.Lo, .int .u64 a2.Hi]) (by kernel_rfl) ?_
  obtain ⟨x1368, hx1369⟩ : ∃ x, span_Right a2 = x := ⟨_, rfl⟩
  have hs1370 := letS hx1369 hs1365
  refine WR.call (dst := some 21) (by kernel_rfl) (retE (g := fun r : Bool => (.bool r : Value)) hx1369 (span_Right_any a2 w58  ⟨(by omega), (by omega)⟩ )) ?_
  rintro _ w1371 hc1372 rfl
  have hz1374 := hc1372.size
  have hC1373 := hC60.pure hc1372
  have hb1375 := hb62.pure hc1372
  have hb1376 := hb63.pure hc1372
  have hb1377 := hb64.pure hc1372
  have hb1378 := hb65.pure hc1372
  have hb1379 := hb56.pure hc1372
  refine WR.batch 3 [(5, pt g2 0), (6, pt g12 0), (7, pt g24 0), (8, pt g38 0), (9, .func (.func 88) #[] #[]), (24, .bool (!x1368))] (by kernel_rfl) ?_
  refine WR.mergeW 12 [(5, pt g2 0), (6, pt g12 0), (7, pt g24 0), (8, pt g38 0), (9, .func (.func 88) #[] #[]), (28, .bool ((!x1368) || (!(span_Right a3))))] (fun w' => Chg [] w1371 w') (fun Q' => ?_) ?_
  ·
   cases hg1380 : (!x1368)
   ·
    replace hg1380 : x1368 = true := (bNotF hg1380)
    intro hM1381
    refine WR.load (dst := some 25) (t := 25) (o := 0) hb1377 (by kernel_rfl) (.agg #[.int .u64 a3.Lo, .int .u64 a3.Hi]) (by kernel_rfl) ?_
    refine WR.call (dst := some 26) (by kernel_rfl) (span_Right_any a3 w1371  ⟨(by omega), (by omega)⟩ ) ?_
    rintro _ w1382 hc1383 rfl
    have hz1385 := hc1383.size
    have hC1384 := hC1373.pure hc1383
    have hb1386 := hb1375.pure hc1383
    have hb1387 := hb1376.pure hc1383
    have hb1388 := hb1377.pure hc1383
    have hb1389 := hb1378.pure hc1383
    have hb1390 := hb1379.pure hc1383
    refine WR.batch 2 [(5, pt g2 0), (6, pt g12 0), (7, pt g24 0), (8, pt g38 0), (9, .func (.func 88) #[] #[]), (28, .bool (!(span_Right a3)))] (by kernel_rfl) ?_
    exact WR.keep [5, 6, 7, 8, 9, 28] (by kernel_rfl) (hM1381 _ ((Chg.refl [] w1371).pure hc1383))
   ·
    replace hg1380 : x1368 = false := (bNotT hg1380)
    intro hM1381
    refine WR.batch 4 [(5, pt g2 0), (6, pt g12 0), (7, pt g24 0), (8, pt g38 0), (9, .func (.func 88) #[] #[]), (28, .bool true)] (by kernel_rfl) ?_
    exact WR.keep [5, 6, 7, 8, 9, 28] (by kernel_rfl) (hM1381 _ (Chg.refl [] w1371))
  intro w1391 hc1392
  have hz1394 := hc1392.size
  have hC1393 := hC1373.pure hc1392
  have hb1395 := hb1375.pure hc1392
  have hb1396 := hb1376.pure hc1392
  have hb1397 := hb1377.pure hc1392
  have hb1398 := hb1378.pure hc1392
  have hb1399 := hb1379.pure hc1392
  have hx1400 : (0 ≤ (span_All a1).Lo ∧ (span_All a1).Lo ≤ 18446744073709551615) ∧ (0 ≤ (span_All a1).Hi ∧ (span_All a1).Hi ≤ 18446744073709551615) := span_All_ok a1 
  refine WR.fin (by kernel_rfl) ?_
  refine go hK1367 ?_
  refine CW.cond (((!x1368) || (!(span_Right a3)))) (by kernel_rfl) (fun ht1401 => ?_) (fun ht1401 => ?_)
  ·
   have hs1402 := ifT ht1401 hs1370
   replace ht1401 : (x1368 = false) ∨ ((span_Right a3) = false) := (orMap (bOrT ht1401) (fun h => (bNotT h)) (fun h => (bNotT h)))
   refine CW.seq fun K1403 hK1403 => ?_
   refine CW.region ?_
   refine WR.load (dst := some 29) (t := 4) (o := 0) hb1395 (by kernel_rfl) (.bool a1) (by kernel_rfl) ?_
   obtain ⟨x1404, hx1405⟩ : ∃ x, span_All a1 = x := ⟨_, rfl⟩
   have hs1407 := letS hx1405 hs1402
   have hx1408 : (0 ≤ x1404.Lo ∧ x1404.Lo ≤ 18446744073709551615) ∧ (0 ≤ x1404.Hi ∧ x1404.Hi ≤ 18446744073709551615) := by rw [← hx1405]; exact span_All_ok a1 
   refine WR.call (dst := some 30) (by kernel_rfl) (retE (g := fun r : TSpan => (.agg #[.int .u64 r.Lo, .int .u64 r.Hi] : Value)) hx1405 (span_All_any a1 w1391  )) ?_
   rintro _ w1409 hc1410 rfl
   have hz1412 := hc1410.size
   have hC1411 := hC1393.pure hc1410
   have hb1413 := hb1395.pure hc1410
   have hb1414 := hb1396.pure hc1410
   have hb1415 := hb1397.pure hc1410
   have hb1416 := hb1398.pure hc1410
   have hb1417 := hb1399.pure hc1410
   refine WR.store (t := 25) (o := 0) (v := .agg #[.int .u64 x1404.Lo, .int .u64 x1404.Hi]) hb1416 (by kernel_rfl) #[.int .u64 x1404.Lo, .int .u64 x1404.Hi] (by kernel_rfl) ?_
   intro w1418 hb1419 hc1420
   have hz1422 := hc1420.size
   have hC1421 := hC1411.step1 hc1420 (by omega)
   have hb1423 := hb1413.chg1 hc1420 (by omega)
   have hb1424 := hb1414.chg1 hc1420 (by omega)
   have hb1425 := hb1415.chg1 hc1420 (by omega)
   have hb1426 := hb1417.chg1 hc1420 (by omega)
   refine WR.fin (by kernel_rfl) ?_
   refine go hK1403 ?_
   refine CW.ret ?_
   exact retCD [.agg #[.int .u64 x1404.Lo, .int .u64 x1404.Hi]] (.agg #[.int .u64 x1404.Lo, .int .u64 x1404.Hi]) rfl ⟨resCell hb1419 rfl (by kernel_rfl), trivial⟩ (⟨hC1421, (congrArg (fun r : TSpan => (.agg #[.int .u64 r.Lo, .int .u64 r.Hi] : Value)) hs1407).symm⟩)
  have hs1427 := ifF ht1401 hs1370
  replace ht1401 : (x1368 = true) ∧ ((span_Right a3) = true) := ⟨(bNotF (bOrF ht1401).1), (bNotF (bOrF ht1401).2)⟩
  refine CW.skip ?_
  refine go hK1366 ?_
  refine CW.seq fun K1428 hK1428 => ?_
  refine CW.region ?_
  refine WR.batch 1 [(5, pt g2 0), (6, pt g12 0), (7, pt g24 0), (8, pt g38 0), (9, .func (.func 88) #[] #[]), (31, .func (.func 54) #[] #[pt g2 0, pt g38 0])] (by kernel_rfl) ?_
  refine WR.defer (dst := none) (d := { target := .fn (.func 54) #[pt g2 0, pt g38 0], args := #[] }) (by kernel_rfl) ?_
  refine WR.fin (by kernel_rfl) ?_
  refine go hK1428 ?_
  refine CW.seq fun K1429 hK1429 => ?_
  refine CW.region ?_
  refine WR.batch 1 [(5, pt g2 0), (6, pt g12 0), (7, pt g24 0), (8, pt g38 0), (32, .func (.func 88) #[] #[])] (by kernel_rfl) ?_
  refine WR.load (dst := some 33) (t := 4) (o := 0) hb1395 (by kernel_rfl) (.bool a1) (by kernel_rfl) ?_
  refine WR.load (dst := some 34) (t := 25) (o := 0) hb1396 (by kernel_rfl) (.agg #[.int .u64 a2.Lo, .int .u64 a2.Hi]) (by kernel_rfl) ?_
  refine WR.load (dst := some 35) (t := 25) (o := 0) hb1397 (by kernel_rfl) (.agg #[.int .u64 a3.Lo, .int .u64 a3.Hi]) (by kernel_rfl) ?_
  obtain ⟨x1430, hx1431⟩ : ∃ x, span_over a1 a2 a3 = x := ⟨_, rfl⟩
  have hs1433 := letS hx1431 hs1427
  have hxx1430_ : x1430.size = 32 ∨ x1430.size = 64 := by rw [← hx1431]; exact span_over_size _ _ _
  have hx1434 : (0 ≤ x1430.a.Lo ∧ x1430.a.Lo ≤ 18446744073709551615) ∧ (0 ≤ x1430.a.Hi ∧ x1430.a.Hi ≤ 18446744073709551615) ∧ (0 ≤ x1430.b.Lo ∧ x1430.b.Lo ≤ 18446744073709551615) ∧ (0 ≤ x1430.b.Hi ∧ x1430.b.Hi ≤ 18446744073709551615) ∧ (0 ≤ x1430.most ∧ x1430.most ≤ 18446744073709551615) ∧ (0 ≤ x1430.size ∧ x1430.size ≤ 18446744073709551615) := by rw [← hx1431]; exact span_over_ok a1 a2 a3 ⟨(by omega), (by omega)⟩ ⟨(by omega), (by omega)⟩ 
  refine WR.call (dst := some 36) (by kernel_rfl) (retE (g := fun r : Twork => (.agg #[.int .u64 r.a.Lo, .int .u64 r.a.Hi, .int .u64 r.b.Lo, .int .u64 r.b.Hi, .bool r.narrow, .int .u64 r.most, .int .u64 r.size] : Value)) hx1431 (span_over_any a1 a2 a3 w1391  ⟨(by omega), (by omega)⟩ ⟨(by omega), (by omega)⟩ )) ?_
  rintro _ w1435 hc1436 rfl
  have hz1438 := hc1436.size
  have hC1437 := hC1393.pure hc1436
  have hb1439 := hb1395.pure hc1436
  have hb1440 := hb1396.pure hc1436
  have hb1441 := hb1397.pure hc1436
  have hb1442 := hb1398.pure hc1436
  have hb1443 := hb1399.pure hc1436
  rcases hx1445 : span_work_neg x1430 with _ | x1444
  ·
   have hs1449 := optN hx1445 hs1433
   refine WR.callX (dst := some 37) (by kernel_rfl) (retP_no (g := fun r : TSpan => (.agg #[.int .u64 r.Lo, .int .u64 r.Hi] : Value)) hx1445 (span_work_neg_any x1430 w1435  ⟨(by omega), (by omega), (by omega), (by omega), (by omega), (by omega)⟩ )) ?_
   intro w1447 hc1448
   have hz1451 := hc1448.size
   have hC1450 := hC1437.pure hc1448
   have hb1452 := hb1439.pure hc1448
   have hb1453 := hb1440.pure hc1448
   have hb1454 := hb1441.pure hc1448
   have hb1455 := hb1442.pure hc1448
   have hb1456 := hb1443.pure hc1448
   exact panicD (P := Try.prog) (fn := Try.f19) (d := { target := .fn (.func 54) #[pt g2 0, pt g38 0], args := #[] }) (fv := .func 54) (cap := #[pt g2 0, pt g38 0]) (f := 54) (args := #[pt g2 0, pt g38 0]) (M := fun w1 => Chg [g38] w1447 w1 ∧ Blk w1 g2 #[.bool a1] 4 ∧ Blk w1 g38 #[.int .u64 (span_All a1).Lo, .int .u64 (span_All a1).Hi] 25) (x := .iface 76 (.agg #[])) rfl (by kernel_rfl) (span_Do_1_pan a1 (⟨(0 : Int), (0 : Int)⟩ : TSpan) g2 g38 w1447 hb1452 hb1455 (by omega)) (fun _ => [.agg #[.int .u64 (span_All a1).Lo, .int .u64 (span_All a1).Hi]]) (fun w1 hM => ⟨resCell hM.2.2 rfl (by kernel_rfl), trivial⟩) (fun w1 hM => ⟨hC1450.step hM.1 (by intro t ht; simp only [List.mem_cons, List.not_mem_nil, or_false] at ht; subst ht; first | exact .inr (by omega) | exact .inl (by simp)), (congrArg (fun r : TSpan => (.agg #[.int .u64 r.Lo, .int .u64 r.Hi] : Value)) hs1449).symm⟩)
  have hs1457 := optS hx1445 hs1433
  have hx1458 : (0 ≤ x1444.Lo ∧ x1444.Lo ≤ 18446744073709551615) ∧ (0 ≤ x1444.Hi ∧ x1444.Hi ≤ 18446744073709551615) := by exact span_work_neg_ok x1430 ⟨(by omega), (by omega), (by omega), (by omega), (by omega), (by omega)⟩  _ hx1445
  refine WR.call (dst := some 37) (by kernel_rfl) (retP_yes (g := fun r : TSpan => (.agg #[.int .u64 r.Lo, .int .u64 r.Hi] : Value)) hx1445 (span_work_neg_any x1430 w1435  ⟨(by omega), (by omega), (by omega), (by omega), (by omega), (by omega)⟩ )) ?_
  rintro _ w1459 hc1460 rfl
  have hz1462 := hc1460.size
  have hC1461 := hC1437.pure hc1460
  have hb1463 := hb1439.pure hc1460
  have hb1464 := hb1440.pure hc1460
  have hb1465 := hb1441.pure hc1460
  have hb1466 := hb1442.pure hc1460
  have hb1467 := hb1443.pure hc1460
  refine WR.store (t := 25) (o := 0) (v := .agg #[.int .u64 x1444.Lo, .int .u64 x1444.Hi]) hb1466 (by kernel_rfl) #[.int .u64 x1444.Lo, .int .u64 x1444.Hi] (by kernel_rfl) ?_
  intro w1468 hb1469 hc1470
  have hz1472 := hc1470.size
  have hC1471 := hC1461.step1 hc1470 (by omega)
  have hb1473 := hb1463.chg1 hc1470 (by omega)
  have hb1474 := hb1464.chg1 hc1470 (by omega)
  have hb1475 := hb1465.chg1 hc1470 (by omega)
  have hb1476 := hb1467.chg1 hc1470 (by omega)
  refine WR.fin (by kernel_rfl) ?_
  refine go hK1429 ?_
  refine CW.ret ?_
  exact retD (P := Try.prog) (fn := Try.f19) (d := { target := .fn (.func 54) #[pt g2 0, pt g38 0], args := #[] }) (fv := .func 54) (cap := #[pt g2 0, pt g38 0]) (f := 54) (args := #[pt g2 0, pt g38 0]) (M := fun w1 => Chg [] w1468 w1) rfl (by kernel_rfl) (span_Do_1_ret g2 g38 w1468) (fun _ => [.agg #[.int .u64 x1444.Lo, .int .u64 x1444.Hi]]) (fun w1 hM => ⟨resCell (hb1469.pure hM) rfl (by kernel_rfl), trivial⟩) (fun w1 hM => ⟨(hC1471.pure hM), (congrArg (fun r : TSpan => (.agg #[.int .u64 r.Lo, .int .u64 r.Hi] : Value)) hs1457).symm⟩)
 have hs1477 := ifF hq1364 hs1363
 refine WR.valR (dst := some 14) (v := .tuple #[.nilFunc, .bool false]) (w' := w58) (run_lookup (t := 73) (co := true) (kt := 22) (et := 71) (d := .int .u8) (x := .int .u8 a0) (z := .nilFunc) hb56 (by kernel_rfl) (by kernel_rfl) rfl (none) (by exact findNow_no _ _ _ _ (by simp only [keysNe, hq67, hq180, hq294, hq408, hq512, hq616, hq720, hq824, hq928, hq1042, hq1146, hq1260, hq1364]; rfl)) (by kernel_rfl) _ (by kernel_rfl)) ?_
 refine WR.batch 5 [(5, pt g2 0), (6, pt g12 0), (7, pt g24 0), (8, pt g38 0), (9, .nilFunc), (10, .bool false)] (by kernel_rfl) ?_
 refine WR.fin (by kernel_rfl) ?_
 refine go hK54 ?_
 refine CW.seq fun K1478 hK1478 => ?_
 refine CW.seq fun K1479 hK1479 => ?_
 refine CW.region ?_
 refine WR.batch 12 [(5, pt g2 0), (6, pt g12 0), (7, pt g24 0), (8, pt g38 0), (9, .nilFunc), (28, .bool true)] (by kernel_rfl) ?_
 refine WR.fin (by kernel_rfl) ?_
 refine go hK1479 ?_
 refine CW.yes (by kernel_rfl) ?_
 refine CW.seq fun K1480 hK1480 => ?_
 refine CW.region ?_
 refine WR.load (dst := some 29) (t := 4) (o := 0) hb62 (by kernel_rfl) (.bool a1) (by kernel_rfl) ?_
 obtain ⟨x1481, hx1482⟩ : ∃ x, span_All a1 = x := ⟨_, rfl⟩
 have hs1484 := letS hx1482 hs1477
 have hx1485 : (0 ≤ x1481.Lo ∧ x1481.Lo ≤ 18446744073709551615) ∧ (0 ≤ x1481.Hi ∧ x1481.Hi ≤ 18446744073709551615) := by rw [← hx1482]; exact span_All_ok a1 
 refine WR.call (dst := some 30) (by kernel_rfl) (retE (g := fun r : TSpan => (.agg #[.int .u64 r.Lo, .int .u64 r.Hi] : Value)) hx1482 (span_All_any a1 w58  )) ?_
 rintro _ w1486 hc1487 rfl
 have hz1489 := hc1487.size
 have hC1488 := hC60.pure hc1487
 have hb1490 := hb62.pure hc1487
 have hb1491 := hb63.pure hc1487
 have hb1492 := hb64.pure hc1487
 have hb1493 := hb65.pure hc1487
 have hb1494 := hb56.pure hc1487
 refine WR.store (t := 25) (o := 0) (v := .agg #[.int .u64 x1481.Lo, .int .u64 x1481.Hi]) hb1493 (by kernel_rfl) #[.int .u64 x1481.Lo, .int .u64 x1481.Hi] (by kernel_rfl) ?_
 intro w1495 hb1496 hc1497
 have hz1499 := hc1497.size
 have hC1498 := hC1488.step1 hc1497 (by omega)
 have hb1500 := hb1490.chg1 hc1497 (by omega)
 have hb1501 := hb1491.chg1 hc1497 (by omega)
 have hb1502 := hb1492.chg1 hc1497 (by omega)
 have hb1503 := hb1494.chg1 hc1497 (by omega)
 refine WR.fin (by kernel_rfl) ?_
 refine go hK1480 ?_
 refine CW.ret ?_
 exact retCD [.agg #[.int .u64 x1481.Lo, .int .u64 x1481.Hi]] (.agg #[.int .u64 x1481.Lo, .int .u64 x1481.Hi]) rfl ⟨resCell hb1496 rfl (by kernel_rfl), trivial⟩ (⟨hC1498, (congrArg (fun r : TSpan => (.agg #[.int .u64 r.Lo, .int .u64 r.Hi] : Value)) hs1484).symm⟩)
end Go.V
