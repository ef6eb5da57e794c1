import Derived.Test.YtjiagljaipadmaaProg
import Derived.Test.YtjiagljaipadmaaLt
namespace Go.V
open Go.RowKit Go.Proofs
def law11_SpanLattice (a0 : TSpan) (a1 : TSpan) (a2 : TSpan) (a3 : Int)  : Bool := (letF (law11_awake) fun x34 => (if (!x34) then false else (letF (law11_right a2) fun x113 => (letF (span_Join (law11_right a0) (law11_right a1)) fun x142 => (letF (span_Meet (law11_right a0) (law11_right a1)) fun x168 => (letF (span_Within (law11_right a0) x142) fun x195 => (if ((((!x195) || (!(span_Within (law11_right a1) x142))) || (((span_Within (law11_right a0) x113) && (span_Within (law11_right a1) x113)) && (!(span_Within x142 x113)))) || (((span_Has (law11_right a0) a3) || (span_Has (law11_right a1) a3)) && (!(span_Has x142 a3)))) then false else (letF (span_Has (law11_right a0) a3) fun x318 => (if (((x318 && (span_Has (law11_right a1) a3)) != (x168.2 && (span_Has x168.1 a3))) || ((span_Within x113 (law11_right a0)) && ((span_Within x113 (law11_right a1)) != (x168.2 && (span_Within x113 x168.1))))) then false else (letF (span_Join (law11_right a1) (law11_right a0)) fun x368 => (((x368.Lo == x142.Lo) && (x368.Hi == x142.Hi)) && (((span_Join (law11_right a0) (law11_right a0)).Lo == (law11_right a0).Lo) && ((span_Join (law11_right a0) (law11_right a0)).Hi == (law11_right a0).Hi)))))))))))))

set_option maxRecDepth 100000 in
set_option maxHeartbeats 4000000 in
theorem law11_SpanLattice_any (a0 : TSpan) (a1 : TSpan) (a2 : TSpan) (a3 : Int)   (w : World)  (_h_a0 : IU64 a0.Lo ∧ IU64 a0.Hi) (_h_a1 : IU64 a1.Lo ∧ IU64 a1.Hi) (_h_a2 : IU64 a2.Lo ∧ IU64 a2.Hi) (_h_a3 : IU64 a3)  : Calls Try.prog 6 #[.agg #[.int .u64 a0.Lo, .int .u64 a0.Hi], .agg #[.int .u64 a1.Lo, .int .u64 a1.Hi], .agg #[.int .u64 a2.Lo, .int .u64 a2.Hi], .int .u64 a3] w (RetV w (.bool (law11_SpanLattice a0 a1 a2 a3))) := by
 have hs := law11_SpanLattice.eq_1 a0 a1 a2 a3
 refine calls_of_CW Try.func6 rfl (n := 120) Try.ntmps6 (by kernel_rfl) [0, 1, 2, 3] (F := [(0, .agg #[.int .u64 a0.Lo, .int .u64 a0.Hi]), (1, .agg #[.int .u64 a1.Lo, .int .u64 a1.Hi]), (2, .agg #[.int .u64 a2.Lo, .int .u64 a2.Hi]), (3, .int .u64 a3)]) (by kernel_rfl) ?_
 refine CW.seq fun K1 hK1 => ?_
 refine CW.region ?_
 refine WR.box (dst := some 4) (e := 25) (v := .agg #[.int .u64 a0.Lo, .int .u64 a0.Hi]) (by kernel_rfl) #[.int .u64 a0.Lo, .int .u64 a0.Hi] (by kernel_rfl) ?_
 intro g2 w3 hN4
 have hf6 : w.heap.size ≤ g2 := hN4.fresh
 have hfr8 := hN4.fresh
 have hc7 := hN4.chg
 have hz10 := hc7.size
 have hC9 := (Chg.refl [] w).pure hc7
 have hb5 := hN4.blk
 have hg11 := hb5.lt
 refine WR.box (dst := some 5) (e := 25) (v := .agg #[.int .u64 a1.Lo, .int .u64 a1.Hi]) (by kernel_rfl) #[.int .u64 a1.Lo, .int .u64 a1.Hi] (by kernel_rfl) ?_
 intro g12 w13 hN14
 have hf16 : w.heap.size ≤ g12 := Nat.le_trans hC9.size hN14.fresh
 have hfr18 := hN14.fresh
 have hc17 := hN14.chg
 have hz20 := hc17.size
 have hC19 := hC9.pure hc17
 have hb15 := hN14.blk
 have hg21 := hb15.lt
 refine WR.box (dst := some 6) (e := 25) (v := .agg #[.int .u64 a2.Lo, .int .u64 a2.Hi]) (by kernel_rfl) #[.int .u64 a2.Lo, .int .u64 a2.Hi] (by kernel_rfl) ?_
 intro g22 w23 hN24
 have hf26 : w.heap.size ≤ g22 := Nat.le_trans hC19.size hN24.fresh
 have hfr28 := hN24.fresh
 have hc27 := hN24.chg
 have hz30 := hc27.size
 have hC29 := hC19.pure hc27
 have hb25 := hN24.blk
 have hg31 := hb25.lt
 refine WR.batch 1 [(3, .int .u64 a3), (4, pt g2 0), (5, pt g12 0), (6, pt g22 0)] (by kernel_rfl) ?_
 refine WR.fin (by kernel_rfl) ?_
 refine go hK1 ?_
 refine CW.seq fun K32 hK32 => ?_
 refine CW.seq fun K33 hK33 => ?_
 refine CW.region ?_
 obtain ⟨x34, hx35⟩ : ∃ x, law11_awake = x := ⟨_, rfl⟩
 have hs36 := letS hx35 hs
 refine WR.call (dst := some 12) (by kernel_rfl) (retE (g := (fun r : Bool => (.bool r : Value))) hx35 (law11_awake_any  w23  )) ?_
 rintro _ w37 hc38 rfl
 have hz40 := hc38.size
 have hC39 := hC29.pure hc38
 refine WR.batch 1 [(3, .int .u64 a3), (4, pt g2 0), (5, pt g12 0), (6, pt g22 0), (13, .bool (!x34))] (by kernel_rfl) ?_
 refine WR.fin (by kernel_rfl) ?_
 refine go hK33 ?_
 refine CW.cond ((!x34)) (by kernel_rfl) (fun ht41 => ?_) (fun ht41 => ?_)
 ·
  have hs42 := ifT ht41 hs36
  replace ht41 : x34 = false := (bNotT ht41)
  refine CW.seq fun K43 hK43 => ?_
  refine CW.region ?_
  refine WR.batch 1 [(8, .bool false)] (by kernel_rfl) ?_
  refine WR.fin (by kernel_rfl) ?_
  refine go hK43 ?_
  refine CW.ret ?_
  exact retV (.bool false) (by kernel_rfl) (⟨hC39, (congrArg (fun r : Bool => (.bool r : Value)) hs42).symm⟩)
 have hs44 := ifF ht41 hs36
 replace ht41 : x34 = true := (bNotF ht41)
 refine CW.skip ?_
 refine go hK32 ?_
 refine CW.seq fun K45 hK45 => ?_
 refine CW.keep [3, 4, 5, 6] (F' := [(3, .int .u64 a3), (4, pt g2 0), (5, pt g12 0), (6, pt g22 0)]) (by kernel_rfl) ?_
 refine CW.regionG 5 [some (.agg #[.int .u64 a0.Lo, .int .u64 a0.Hi]), some (.agg #[.int .u64 (law11_right a0).Lo, .int .u64 (law11_right a0).Hi]), some (.agg #[.int .u64 a1.Lo, .int .u64 a1.Hi]), some (.agg #[.int .u64 (law11_right a1).Lo, .int .u64 (law11_right a1).Hi]), some (.agg #[.int .u64 a2.Lo, .int .u64 a2.Hi])] (fun u => [(14, .agg #[.int .u64 a0.Lo, .int .u64 a0.Hi]), (15, .agg #[.int .u64 (law11_right a0).Lo, .int .u64 (law11_right a0).Hi]), (16, .agg #[.int .u64 a1.Lo, .int .u64 a1.Hi]), (17, .agg #[.int .u64 (law11_right a1).Lo, .int .u64 (law11_right a1).Hi]), (18, .agg #[.int .u64 a2.Lo, .int .u64 a2.Hi]), (3, .int .u64 a3), (4, pt g2 0), (5, pt g12 0), (6, pt g22 0)]) (fun _ => by kernel_rfl) (by kernel_rfl) [] (fun _ _ => True) (fun _ => trivial) (fun _ _ _ _ _ _ _ => trivial) [] [] (by kernel_rfl) (fun w' => Chg [] w37 w') (fun _ _ _ => True) (fun j x w hj h => absurd hj (by simp)) (by kernel_rfl) (by kernel_rfl) (by kernel_rfl) (by kernel_rfl) (Chg.drew w37) (fun _ _ _ h h' => h.step h' (fun t ht => .inl (cL_sub t ht))) (fun _ _ _ _ _ _ _ _ => trivial) ⟨?_, ⟨?_, ⟨?_, ⟨?_, ⟨?_, trivial⟩⟩⟩⟩⟩ ?_
 ·
  intro u46 w47 hW48 _ hp49 hal50
  have hz53 := hW48.size
  have hC52 := hC39.pure hW48
  have hb54 := (((hb5.pure hc17).pure hc27).pure hc38).pure hW48
  refine WR.load (dst := some 14) (t := 25) (o := 0) hb54 (by kernel_rfl) (.agg #[.int .u64 a0.Lo, .int .u64 a0.Hi]) (by kernel_rfl) ?_
  refine WR.fin (by kernel_rfl) ?_
  exact fun _ ha => ⟨Chg.refl _ _, _, ha, ⟨⟨fun h => absurd h (by decide), alNone (by decide)⟩, rfl⟩⟩
 ·
  intro u55 w56 hW57 _ hp58 hal59
  have hz62 := hW57.size
  have hC61 := hC39.pure hW57
  have hx63 : IU64 (law11_right a0).Lo ∧ IU64 (law11_right a0).Hi := law11_right_ok a0 ⟨(by omega), (by omega)⟩ 
  have hx64 : IU64 (law11_right a1).Lo ∧ IU64 (law11_right a1).Hi := law11_right_ok a1 ⟨(by omega), (by omega)⟩ 
  have hx65 : IU64 (law11_right a0).Lo ∧ IU64 (law11_right a0).Hi := law11_right_ok a0 ⟨(by omega), (by omega)⟩ 
  refine WR.call (dst := some 15) (by kernel_rfl) (law11_right_any a0 w56  ⟨(by omega), (by omega)⟩ ) ?_
  rintro _ w66 hc67 rfl
  have hz69 := hc67.size
  have hC68 := hC61.pure hc67
  refine WR.fin (by kernel_rfl) ?_
  exact fun _ ha => ⟨hc67, _, ha, ⟨⟨fun h => absurd h (by decide), alNone (by decide)⟩, rfl⟩⟩
 ·
  intro u70 w71 hW72 _ hp73 hal74
  have hz77 := hW72.size
  have hC76 := hC39.pure hW72
  have hb78 := ((hb15.pure hc27).pure hc38).pure hW72
  refine WR.load (dst := some 16) (t := 25) (o := 0) hb78 (by kernel_rfl) (.agg #[.int .u64 a1.Lo, .int .u64 a1.Hi]) (by kernel_rfl) ?_
  refine WR.fin (by kernel_rfl) ?_
  exact fun _ ha => ⟨Chg.refl _ _, _, ha, ⟨⟨fun h => absurd h (by decide), alNone (by decide)⟩, rfl⟩⟩
 ·
  intro u79 w80 hW81 _ hp82 hal83
  have hz86 := hW81.size
  have hC85 := hC39.pure hW81
  have hx87 : IU64 (law11_right a0).Lo ∧ IU64 (law11_right a0).Hi := law11_right_ok a0 ⟨(by omega), (by omega)⟩ 
  have hx88 : IU64 (law11_right a1).Lo ∧ IU64 (law11_right a1).Hi := law11_right_ok a1 ⟨(by omega), (by omega)⟩ 
  have hx89 : IU64 (law11_right a1).Lo ∧ IU64 (law11_right a1).Hi := law11_right_ok a1 ⟨(by omega), (by omega)⟩ 
  refine WR.call (dst := some 17) (by kernel_rfl) (law11_right_any a1 w80  ⟨(by omega), (by omega)⟩ ) ?_
  rintro _ w90 hc91 rfl
  have hz93 := hc91.size
  have hC92 := hC85.pure hc91
  refine WR.fin (by kernel_rfl) ?_
  exact fun _ ha => ⟨hc91, _, ha, ⟨⟨fun h => absurd h (by decide), alNone (by decide)⟩, rfl⟩⟩
 ·
  intro u94 w95 hW96 _ hp97 hal98
  have hz101 := hW96.size
  have hC100 := hC39.pure hW96
  have hb102 := (hb25.pure hc38).pure hW96
  refine WR.load (dst := some 18) (t := 25) (o := 0) hb102 (by kernel_rfl) (.agg #[.int .u64 a2.Lo, .int .u64 a2.Hi]) (by kernel_rfl) ?_
  refine WR.fin (by kernel_rfl) ?_
  exact fun _ ha => ⟨Chg.refl _ _, _, ha, ⟨⟨fun h => absurd h (by decide), alNone (by decide)⟩, rfl⟩⟩
 intro u103 w104 hW105 _ _ _
 have hz110 := hW105.size
 have hC109 := hC39.pure hW105
 have hx111 : IU64 (law11_right a0).Lo ∧ IU64 (law11_right a0).Hi := law11_right_ok a0 ⟨(by omega), (by omega)⟩ 
 have hx112 : IU64 (law11_right a1).Lo ∧ IU64 (law11_right a1).Hi := law11_right_ok a1 ⟨(by omega), (by omega)⟩ 
 refine WR.keep [3, 4, 5, 6, 15, 17, 18] (F' := [(3, .int .u64 a3), (4, pt g2 0), (5, pt g12 0), (6, pt g22 0), (15, .agg #[.int .u64 (law11_right a0).Lo, .int .u64 (law11_right a0).Hi]), (17, .agg #[.int .u64 (law11_right a1).Lo, .int .u64 (law11_right a1).Hi]), (18, .agg #[.int .u64 a2.Lo, .int .u64 a2.Hi])]) (by kernel_rfl) ?_
 obtain ⟨x113, hx114⟩ : ∃ x, law11_right a2 = x := ⟨_, rfl⟩
 have hs116 := letS hx114 hs44
 have hx115 : IU64 x113.Lo ∧ IU64 x113.Hi := by rw [← hx114]; exact law11_right_ok a2 ⟨(by omega), (by omega)⟩ 
 refine WR.call (dst := some 19) (by kernel_rfl) (retE (g := TSpan.v) hx114 (law11_right_any a2 w104  ⟨(by omega), (by omega)⟩ )) ?_
 rintro _ w117 hc118 rfl
 have hz120 := hc118.size
 have hC119 := hC109.pure hc118
 have hb124 := ((((hb5.pure hc17).pure hc27).pure hc38).pure hW105).pure hc118
 refine WR.store (t := 25) (o := 0) (v := .agg #[.int .u64 (law11_right a0).Lo, .int .u64 (law11_right a0).Hi]) hb124 (by kernel_rfl) #[.int .u64 (law11_right a0).Lo, .int .u64 (law11_right a0).Hi] (by kernel_rfl) ?_
 intro w121 hb122 hc123
 have hz126 := hc123.size
 have hC125 := hC119.step1 hc123 (by omega)
 have hb130 := ((((hb15.pure hc27).pure hc38).pure hW105).pure hc118).chg1 hc123 (by omega)
 refine WR.store (t := 25) (o := 0) (v := .agg #[.int .u64 (law11_right a1).Lo, .int .u64 (law11_right a1).Hi]) hb130 (by kernel_rfl) #[.int .u64 (law11_right a1).Lo, .int .u64 (law11_right a1).Hi] (by kernel_rfl) ?_
 intro w127 hb128 hc129
 have hz132 := hc129.size
 have hC131 := hC125.step1 hc129 (by omega)
 have hb136 := ((((hb25.pure hc38).pure hW105).pure hc118).chg1 hc123 (by omega)).chg1 hc129 (by omega)
 refine WR.store (t := 25) (o := 0) (v := .agg #[.int .u64 x113.Lo, .int .u64 x113.Hi]) hb136 (by kernel_rfl) #[.int .u64 x113.Lo, .int .u64 x113.Hi] (by kernel_rfl) ?_
 intro w133 hb134 hc135
 have hz138 := hc135.size
 have hC137 := hC131.step1 hc135 (by omega)
 refine WR.fin (by kernel_rfl) ?_
 refine go hK45 ?_
 refine CW.seq fun K139 hK139 => ?_
 refine CW.region ?_
 have hb140 := (hb122.chg1 hc129 (by omega)).chg1 hc135 (by omega)
 refine WR.load (dst := some 20) (t := 25) (o := 0) hb140 (by kernel_rfl) (.agg #[.int .u64 (law11_right a0).Lo, .int .u64 (law11_right a0).Hi]) (by kernel_rfl) ?_
 have hb141 := hb128.chg1 hc135 (by omega)
 refine WR.load (dst := some 21) (t := 25) (o := 0) hb141 (by kernel_rfl) (.agg #[.int .u64 (law11_right a1).Lo, .int .u64 (law11_right a1).Hi]) (by kernel_rfl) ?_
 obtain ⟨x142, hx143⟩ : ∃ x, span_Join (law11_right a0) (law11_right a1) = x := ⟨_, rfl⟩
 have hs145 := letS hx143 hs116
 have hx144 : IU64 x142.Lo ∧ IU64 x142.Hi := by have : IU64 (law11_right a0).Lo ∧ IU64 (law11_right a0).Hi := law11_right_ok a0 ⟨(by omega), (by omega)⟩ ; have : IU64 (law11_right a1).Lo ∧ IU64 (law11_right a1).Hi := law11_right_ok a1 ⟨(by omega), (by omega)⟩ ; rw [← hx143]; exact span_Join_ok (law11_right a0) (law11_right a1) ⟨(by omega), (by omega)⟩ ⟨(by omega), (by omega)⟩ 
 refine WR.call (dst := some 22) (by kernel_rfl) (retE (g := TSpan.v) hx143 (span_Join_any (law11_right a0) (law11_right a1) w133  ⟨(by omega), (by omega)⟩ ⟨(by omega), (by omega)⟩ )) ?_
 rintro _ w146 hc147 rfl
 have hz149 := hc147.size
 have hC148 := hC137.pure hc147
 refine WR.alloc (dst := some 9) (e := 25) (by kernel_rfl) #[.int .u64 0, .int .u64 0] (by kernel_rfl) ?_
 intro g150 w151 hN152
 have hf154 : w.heap.size ≤ g150 := Nat.le_trans hC148.size hN152.fresh
 have hfr156 := hN152.fresh
 have hc155 := hN152.chg
 have hz158 := hc155.size
 have hC157 := hC148.pure hc155
 have hb153 := hN152.blk
 have hg159 := hb153.lt
 refine WR.store (t := 25) (o := 0) (v := .agg #[.int .u64 x142.Lo, .int .u64 x142.Hi]) hb153 (by kernel_rfl) #[.int .u64 x142.Lo, .int .u64 x142.Hi] (by kernel_rfl) ?_
 intro w160 hb161 hc162
 have hz164 := hc162.size
 have hC163 := hC157.step1 hc162 (by omega)
 refine WR.fin (by kernel_rfl) ?_
 refine go hK139 ?_
 refine CW.seq fun K165 hK165 => ?_
 refine CW.region ?_
 have hb166 := ((hb140.pure hc147).pure hc155).chg1 hc162 (by omega)
 refine WR.load (dst := some 24) (t := 25) (o := 0) hb166 (by kernel_rfl) (.agg #[.int .u64 (law11_right a0).Lo, .int .u64 (law11_right a0).Hi]) (by kernel_rfl) ?_
 have hb167 := ((hb141.pure hc147).pure hc155).chg1 hc162 (by omega)
 refine WR.load (dst := some 25) (t := 25) (o := 0) hb167 (by kernel_rfl) (.agg #[.int .u64 (law11_right a1).Lo, .int .u64 (law11_right a1).Hi]) (by kernel_rfl) ?_
 obtain ⟨x168, hx169⟩ : ∃ x, span_Meet (law11_right a0) (law11_right a1) = x := ⟨_, rfl⟩
 have hs171 := letS hx169 hs145
 have hx170 : IU64 x168.1.Lo ∧ IU64 x168.1.Hi := by have : IU64 (law11_right a0).Lo ∧ IU64 (law11_right a0).Hi := law11_right_ok a0 ⟨(by omega), (by omega)⟩ ; have : IU64 (law11_right a1).Lo ∧ IU64 (law11_right a1).Hi := law11_right_ok a1 ⟨(by omega), (by omega)⟩ ; rw [← hx169]; exact span_Meet_ok (law11_right a0) (law11_right a1) ⟨(by omega), (by omega)⟩ ⟨(by omega), (by omega)⟩ 
 refine WR.call (dst := some 26) (by kernel_rfl) (retE (g := (fun r : (TSpan × Bool) => (.tuple #[TSpan.v r.1, .bool r.2] : Value))) hx169 (span_Meet_any (law11_right a0) (law11_right a1) w160  ⟨(by omega), (by omega)⟩ ⟨(by omega), (by omega)⟩ )) ?_
 rintro _ w172 hc173 rfl
 have hz175 := hc173.size
 have hC174 := hC163.pure hc173
 refine WR.batch 3 [(3, .int .u64 a3), (4, pt g2 0), (5, pt g12 0), (6, pt g22 0), (9, pt g150 0), (27, .agg #[.int .u64 x168.1.Lo, .int .u64 x168.1.Hi]), (28, .bool x168.2)] (by kernel_rfl) ?_
 refine WR.alloc (dst := some 10) (e := 25) (by kernel_rfl) #[.int .u64 0, .int .u64 0] (by kernel_rfl) ?_
 intro g176 w177 hN178
 have hf180 : w.heap.size ≤ g176 := Nat.le_trans hC174.size hN178.fresh
 have hfr182 := hN178.fresh
 have hc181 := hN178.chg
 have hz184 := hc181.size
 have hC183 := hC174.pure hc181
 have hb179 := hN178.blk
 have hg185 := hb179.lt
 refine WR.store (t := 25) (o := 0) (v := .agg #[.int .u64 x168.1.Lo, .int .u64 x168.1.Hi]) hb179 (by kernel_rfl) #[.int .u64 x168.1.Lo, .int .u64 x168.1.Hi] (by kernel_rfl) ?_
 intro w186 hb187 hc188
 have hz190 := hc188.size
 have hC189 := hC183.step1 hc188 (by omega)
 refine WR.batch 1 [(3, .int .u64 a3), (4, pt g2 0), (5, pt g12 0), (6, pt g22 0), (9, pt g150 0), (10, pt g176 0), (11, .bool x168.2)] (by kernel_rfl) ?_
 refine WR.fin (by kernel_rfl) ?_
 refine go hK165 ?_
 refine CW.seq fun K191 hK191 => ?_
 refine CW.seq fun K192 hK192 => ?_
 refine CW.region ?_
 have hb193 := ((hb166.pure hc173).pure hc181).chg1 hc188 (by omega)
 refine WR.load (dst := some 29) (t := 25) (o := 0) hb193 (by kernel_rfl) (.agg #[.int .u64 (law11_right a0).Lo, .int .u64 (law11_right a0).Hi]) (by kernel_rfl) ?_
 have hb194 := ((hb161.pure hc173).pure hc181).chg1 hc188 (by omega)
 refine WR.load (dst := some 30) (t := 25) (o := 0) hb194 (by kernel_rfl) (.agg #[.int .u64 x142.Lo, .int .u64 x142.Hi]) (by kernel_rfl) ?_
 obtain ⟨x195, hx196⟩ : ∃ x, span_Within (law11_right a0) x142 = x := ⟨_, rfl⟩
 have hs197 := letS hx196 hs171
 refine WR.call (dst := some 31) (by kernel_rfl) (retE (g := (fun r : Bool => (.bool r : Value))) hx196 (span_Within_any (law11_right a0) x142 w186  ⟨(by omega), (by omega)⟩ ⟨(by omega), (by omega)⟩ )) ?_
 rintro _ w198 hc199 rfl
 have hz201 := hc199.size
 have hC200 := hC189.pure hc199
 refine WR.batch 2 [(3, .int .u64 a3), (4, pt g2 0), (5, pt g12 0), (6, pt g22 0), (9, pt g150 0), (10, pt g176 0), (11, .bool x168.2), (33, .bool (!x195))] (by kernel_rfl) ?_
 refine WR.mergeW 10 [(3, .int .u64 a3), (4, pt g2 0), (5, pt g12 0), (6, pt g22 0), (9, pt g150 0), (10, pt g176 0), (11, .bool x168.2), (38, .bool ((!x195) || (!(span_Within (law11_right a1) x142))))] (fun w' => Chg [] w198 w') (fun Q' => ?_) ?_
 ·
  cases hg202 : (!x195)
  ·
   have hk204 := hg202
   replace hg202 : x195 = true := (bNotF hg202)
   intro hM203
   have hb205 := (((hb167.pure hc173).pure hc181).chg1 hc188 (by omega)).pure hc199
   refine WR.load (dst := some 34) (t := 25) (o := 0) hb205 (by kernel_rfl) (.agg #[.int .u64 (law11_right a1).Lo, .int .u64 (law11_right a1).Hi]) (by kernel_rfl) ?_
   have hb206 := hb194.pure hc199
   refine WR.load (dst := some 35) (t := 25) (o := 0) hb206 (by kernel_rfl) (.agg #[.int .u64 x142.Lo, .int .u64 x142.Hi]) (by kernel_rfl) ?_
   refine WR.call (dst := some 36) (by kernel_rfl) (span_Within_any (law11_right a1) x142 w198  ⟨(by omega), (by omega)⟩ ⟨(by omega), (by omega)⟩ ) ?_
   rintro _ w207 hc208 rfl
   have hz210 := hc208.size
   have hC209 := hC200.pure hc208
   refine WR.batch 2 [(3, .int .u64 a3), (4, pt g2 0), (5, pt g12 0), (6, pt g22 0), (9, pt g150 0), (10, pt g176 0), (11, .bool x168.2), (38, .bool (!(span_Within (law11_right a1) x142)))] (by kernel_rfl) ?_
   exact WR.keep [3, 4, 5, 6, 9, 10, 11, 38] (by kernel_rfl) (hM203 _ ((Chg.refl [] w198).pure hc208))
  ·
   have hk211 := hg202
   replace hg202 : x195 = false := (bNotT hg202)
   intro hM203
   refine WR.batch 5 [(3, .int .u64 a3), (4, pt g2 0), (5, pt g12 0), (6, pt g22 0), (9, pt g150 0), (10, pt g176 0), (11, .bool x168.2), (38, .bool true)] (by kernel_rfl) ?_
   exact WR.keep [3, 4, 5, 6, 9, 10, 11, 38] (by kernel_rfl) (hM203 _ (Chg.refl [] w198))
 intro w212 hc213
 have hz215 := hc213.size
 have hC214 := hC200.pure hc213
 have hx216 : IU64 (law11_right a0).Lo ∧ IU64 (law11_right a0).Hi := law11_right_ok a0 ⟨(by omega), (by omega)⟩ 
 have hx217 : IU64 (law11_right a1).Lo ∧ IU64 (law11_right a1).Hi := law11_right_ok a1 ⟨(by omega), (by omega)⟩ 
 refine WR.batch 1 [(3, .int .u64 a3), (4, pt g2 0), (5, pt g12 0), (6, pt g22 0), (9, pt g150 0), (10, pt g176 0), (11, .bool x168.2), (39, .bool ((!x195) || (!(span_Within (law11_right a1) x142))))] (by kernel_rfl) ?_
 refine WR.mergeW 26 [(3, .int .u64 a3), (4, pt g2 0), (5, pt g12 0), (6, pt g22 0), (9, pt g150 0), (10, pt g176 0), (11, .bool x168.2), (54, .bool (((!x195) || (!(span_Within (law11_right a1) x142))) || (((span_Within (law11_right a0) x113) && (span_Within (law11_right a1) x113)) && (!(span_Within x142 x113)))))] (fun w' => Chg [] w212 w') (fun Q' => ?_) ?_
 ·
  cases hg218 : ((!x195) || (!(span_Within (law11_right a1) x142)))
  ·
   have hk220 := hg218
   replace hg218 : (x195 = true) ∧ ((span_Within (law11_right a1) x142) = true) := ⟨(bNotF (bOrF hg218).1), (bNotF (bOrF hg218).2)⟩
   intro hM219
   have hb221 := (hb193.pure hc199).pure hc213
   refine WR.load (dst := some 40) (t := 25) (o := 0) hb221 (by kernel_rfl) (.agg #[.int .u64 (law11_right a0).Lo, .int .u64 (law11_right a0).Hi]) (by kernel_rfl) ?_
   have hb222 := (((((((hb134.pure hc147).pure hc155).chg1 hc162 (by omega)).pure hc173).pure hc181).chg1 hc188 (by omega)).pure hc199).pure hc213
   refine WR.load (dst := some 41) (t := 25) (o := 0) hb222 (by kernel_rfl) (.agg #[.int .u64 x113.Lo, .int .u64 x113.Hi]) (by kernel_rfl) ?_
   refine WR.call (dst := some 42) (by kernel_rfl) (span_Within_any (law11_right a0) x113 w212  ⟨(by omega), (by omega)⟩ ⟨(by omega), (by omega)⟩ ) ?_
   rintro _ w223 hc224 rfl
   have hz226 := hc224.size
   have hC225 := hC214.pure hc224
   refine WR.batch 1 [(3, .int .u64 a3), (4, pt g2 0), (5, pt g12 0), (6, pt g22 0), (9, pt g150 0), (10, pt g176 0), (11, .bool x168.2), (39, .bool false), (43, .bool (span_Within (law11_right a0) x113))] (by kernel_rfl) ?_
   refine WR.mergeW 19 [(3, .int .u64 a3), (4, pt g2 0), (5, pt g12 0), (6, pt g22 0), (9, pt g150 0), (10, pt g176 0), (11, .bool x168.2), (39, .bool false), (47, .bool ((span_Within (law11_right a0) x113) && (span_Within (law11_right a1) x113)))] (fun w' => Chg [] w223 w') (fun Q' => ?_) ?_
   ·
    cases hg227 : (span_Within (law11_right a0) x113)
    ·
     have hk229 := hg227
     intro hM228
     refine WR.batch 4 [(3, .int .u64 a3), (4, pt g2 0), (5, pt g12 0), (6, pt g22 0), (9, pt g150 0), (10, pt g176 0), (11, .bool x168.2), (39, .bool false), (47, .bool false)] (by kernel_rfl) ?_
     exact WR.keep [3, 4, 5, 6, 9, 10, 11, 39, 47] (by kernel_rfl) (hM228 _ (Chg.refl [] w223))
    ·
     have hk230 := hg227
     intro hM228
     have hb231 := (((((hb167.pure hc173).pure hc181).chg1 hc188 (by omega)).pure hc199).pure hc213).pure hc224
     refine WR.load (dst := some 44) (t := 25) (o := 0) hb231 (by kernel_rfl) (.agg #[.int .u64 (law11_right a1).Lo, .int .u64 (law11_right a1).Hi]) (by kernel_rfl) ?_
     have hb232 := hb222.pure hc224
     refine WR.load (dst := some 45) (t := 25) (o := 0) hb232 (by kernel_rfl) (.agg #[.int .u64 x113.Lo, .int .u64 x113.Hi]) (by kernel_rfl) ?_
     refine WR.call (dst := some 46) (by kernel_rfl) (span_Within_any (law11_right a1) x113 w223  ⟨(by omega), (by omega)⟩ ⟨(by omega), (by omega)⟩ ) ?_
     rintro _ w233 hc234 rfl
     have hz236 := hc234.size
     have hC235 := hC225.pure hc234
     refine WR.batch 1 [(3, .int .u64 a3), (4, pt g2 0), (5, pt g12 0), (6, pt g22 0), (9, pt g150 0), (10, pt g176 0), (11, .bool x168.2), (39, .bool false), (47, .bool (span_Within (law11_right a1) x113))] (by kernel_rfl) ?_
     exact WR.keep [3, 4, 5, 6, 9, 10, 11, 39, 47] (by kernel_rfl) (hM228 _ ((Chg.refl [] w223).pure hc234))
   intro w237 hc238
   have hz240 := hc238.size
   have hC239 := hC225.pure hc238
   have hx241 : IU64 (law11_right a0).Lo ∧ IU64 (law11_right a0).Hi := law11_right_ok a0 ⟨(by omega), (by omega)⟩ 
   have hx242 : IU64 (law11_right a1).Lo ∧ IU64 (law11_right a1).Hi := law11_right_ok a1 ⟨(by omega), (by omega)⟩ 
   refine WR.batch 1 [(3, .int .u64 a3), (4, pt g2 0), (5, pt g12 0), (6, pt g22 0), (9, pt g150 0), (10, pt g176 0), (11, .bool x168.2), (39, .bool false), (48, .bool ((span_Within (law11_right a0) x113) && (span_Within (law11_right a1) x113)))] (by kernel_rfl) ?_
   refine WR.mergeW 25 [(3, .int .u64 a3), (4, pt g2 0), (5, pt g12 0), (6, pt g22 0), (9, pt g150 0), (10, pt g176 0), (11, .bool x168.2), (39, .bool false), (53, .bool (((span_Within (law11_right a0) x113) && (span_Within (law11_right a1) x113)) && (!(span_Within x142 x113))))] (fun w' => Chg [] w237 w') (fun Q' => ?_) ?_
   ·
    cases hg243 : ((span_Within (law11_right a0) x113) && (span_Within (law11_right a1) x113))
    ·
     have hk245 := hg243
     replace hg243 : ((span_Within (law11_right a0) x113) = false) ∨ ((span_Within (law11_right a1) x113) = false) := (orMap (bAndF hg243) (fun h => h) (fun h => h))
     intro hM244
     refine WR.batch 5 [(3, .int .u64 a3), (4, pt g2 0), (5, pt g12 0), (6, pt g22 0), (9, pt g150 0), (10, pt g176 0), (11, .bool x168.2), (39, .bool false), (53, .bool false)] (by kernel_rfl) ?_
     exact WR.keep [3, 4, 5, 6, 9, 10, 11, 39, 53] (by kernel_rfl) (hM244 _ (Chg.refl [] w237))
    ·
     have hk246 := hg243
     replace hg243 : ((span_Within (law11_right a0) x113) = true) ∧ ((span_Within (law11_right a1) x113) = true) := ⟨(bAndT hg243).1, (bAndT hg243).2⟩
     intro hM244
     have hb247 := (((hb194.pure hc199).pure hc213).pure hc224).pure hc238
     refine WR.load (dst := some 49) (t := 25) (o := 0) hb247 (by kernel_rfl) (.agg #[.int .u64 x142.Lo, .int .u64 x142.Hi]) (by kernel_rfl) ?_
     have hb248 := (hb222.pure hc224).pure hc238
     refine WR.load (dst := some 50) (t := 25) (o := 0) hb248 (by kernel_rfl) (.agg #[.int .u64 x113.Lo, .int .u64 x113.Hi]) (by kernel_rfl) ?_
     refine WR.call (dst := some 51) (by kernel_rfl) (span_Within_any x142 x113 w237  ⟨(by omega), (by omega)⟩ ⟨(by omega), (by omega)⟩ ) ?_
     rintro _ w249 hc250 rfl
     have hz252 := hc250.size
     have hC251 := hC239.pure hc250
     refine WR.batch 2 [(3, .int .u64 a3), (4, pt g2 0), (5, pt g12 0), (6, pt g22 0), (9, pt g150 0), (10, pt g176 0), (11, .bool x168.2), (39, .bool false), (53, .bool (!(span_Within x142 x113)))] (by kernel_rfl) ?_
     exact WR.keep [3, 4, 5, 6, 9, 10, 11, 39, 53] (by kernel_rfl) (hM244 _ ((Chg.refl [] w237).pure hc250))
   intro w253 hc254
   have hz256 := hc254.size
   have hC255 := hC239.pure hc254
   have hx257 : IU64 (law11_right a0).Lo ∧ IU64 (law11_right a0).Hi := law11_right_ok a0 ⟨(by omega), (by omega)⟩ 
   have hx258 : IU64 (law11_right a1).Lo ∧ IU64 (law11_right a1).Hi := law11_right_ok a1 ⟨(by omega), (by omega)⟩ 
   refine WR.batch 1 [(3, .int .u64 a3), (4, pt g2 0), (5, pt g12 0), (6, pt g22 0), (9, pt g150 0), (10, pt g176 0), (11, .bool x168.2), (54, .bool (((span_Within (law11_right a0) x113) && (span_Within (law11_right a1) x113)) && (!(span_Within x142 x113))))] (by kernel_rfl) ?_
   exact WR.keep [3, 4, 5, 6, 9, 10, 11, 54] (by kernel_rfl) (hM219 _ ((((Chg.refl [] w212).pure hc224).pure hc238).pure hc254))
  ·
   have hk259 := hg218
   replace hg218 : (x195 = false) ∨ ((span_Within (law11_right a1) x142) = false) := (orMap (bOrT hg218) (fun h => (bNotT h)) (fun h => (bNotT h)))
   intro hM219
   refine WR.batch 15 [(3, .int .u64 a3), (4, pt g2 0), (5, pt g12 0), (6, pt g22 0), (9, pt g150 0), (10, pt g176 0), (11, .bool x168.2), (54, .bool true)] (by kernel_rfl) ?_
   exact WR.keep [3, 4, 5, 6, 9, 10, 11, 54] (by kernel_rfl) (hM219 _ (Chg.refl [] w212))
 intro w260 hc261
 have hz263 := hc261.size
 have hC262 := hC214.pure hc261
 have hx264 : IU64 (law11_right a0).Lo ∧ IU64 (law11_right a0).Hi := law11_right_ok a0 ⟨(by omega), (by omega)⟩ 
 have hx265 : IU64 (law11_right a1).Lo ∧ IU64 (law11_right a1).Hi := law11_right_ok a1 ⟨(by omega), (by omega)⟩ 
 refine WR.batch 1 [(3, .int .u64 a3), (4, pt g2 0), (5, pt g12 0), (6, pt g22 0), (9, pt g150 0), (10, pt g176 0), (11, .bool x168.2), (55, .bool (((!x195) || (!(span_Within (law11_right a1) x142))) || (((span_Within (law11_right a0) x113) && (span_Within (law11_right a1) x113)) && (!(span_Within x142 x113)))))] (by kernel_rfl) ?_
 refine WR.mergeW 42 [(3, .int .u64 a3), (4, pt g2 0), (5, pt g12 0), (6, pt g22 0), (9, pt g150 0), (10, pt g176 0), (11, .bool x168.2), (70, .bool ((((!x195) || (!(span_Within (law11_right a1) x142))) || (((span_Within (law11_right a0) x113) && (span_Within (law11_right a1) x113)) && (!(span_Within x142 x113)))) || (((span_Has (law11_right a0) a3) || (span_Has (law11_right a1) a3)) && (!(span_Has x142 a3)))))] (fun w' => Chg [] w260 w') (fun Q' => ?_) ?_
 ·
  cases hg266 : (((!x195) || (!(span_Within (law11_right a1) x142))) || (((span_Within (law11_right a0) x113) && (span_Within (law11_right a1) x113)) && (!(span_Within x142 x113))))
  ·
   have hk268 := hg266
   replace hg266 : ((x195 = true) ∧ ((span_Within (law11_right a1) x142) = true)) ∧ ((((span_Within (law11_right a0) x113) = false) ∨ ((span_Within (law11_right a1) x113) = false)) ∨ ((span_Within x142 x113) = true)) := ⟨⟨(bNotF (bOrF (bOrF hg266).1).1), (bNotF (bOrF (bOrF hg266).1).2)⟩, (orMap (bAndF (bOrF hg266).2) (fun h => (orMap (bAndF h) (fun h => h) (fun h => h))) (fun h => (bNotF h)))⟩
   intro hM267
   have hb269 := ((hb193.pure hc199).pure hc213).pure hc261
   refine WR.load (dst := some 56) (t := 25) (o := 0) hb269 (by kernel_rfl) (.agg #[.int .u64 (law11_right a0).Lo, .int .u64 (law11_right a0).Hi]) (by kernel_rfl) ?_
   refine WR.batch 1 [(3, .int .u64 a3), (4, pt g2 0), (5, pt g12 0), (6, pt g22 0), (9, pt g150 0), (10, pt g176 0), (11, .bool x168.2), (55, .bool false), (56, .agg #[.int .u64 (law11_right a0).Lo, .int .u64 (law11_right a0).Hi]), (57, .int .u64 a3)] (by kernel_rfl) ?_
   refine WR.call (dst := some 58) (by kernel_rfl) (span_Has_any (law11_right a0) a3 w260  ⟨(by omega), (by omega)⟩ (by omega) ) ?_
   rintro _ w270 hc271 rfl
   have hz273 := hc271.size
   have hC272 := hC262.pure hc271
   refine WR.batch 1 [(3, .int .u64 a3), (4, pt g2 0), (5, pt g12 0), (6, pt g22 0), (9, pt g150 0), (10, pt g176 0), (11, .bool x168.2), (55, .bool false), (59, .bool (span_Has (law11_right a0) a3))] (by kernel_rfl) ?_
   refine WR.mergeW 35 [(3, .int .u64 a3), (4, pt g2 0), (5, pt g12 0), (6, pt g22 0), (9, pt g150 0), (10, pt g176 0), (11, .bool x168.2), (55, .bool false), (63, .bool ((span_Has (law11_right a0) a3) || (span_Has (law11_right a1) a3)))] (fun w' => Chg [] w270 w') (fun Q' => ?_) ?_
   ·
    cases hg274 : (span_Has (law11_right a0) a3)
    ·
     have hk276 := hg274
     intro hM275
     have hb277 := ((((((hb167.pure hc173).pure hc181).chg1 hc188 (by omega)).pure hc199).pure hc213).pure hc261).pure hc271
     refine WR.load (dst := some 60) (t := 25) (o := 0) hb277 (by kernel_rfl) (.agg #[.int .u64 (law11_right a1).Lo, .int .u64 (law11_right a1).Hi]) (by kernel_rfl) ?_
     refine WR.batch 1 [(3, .int .u64 a3), (4, pt g2 0), (5, pt g12 0), (6, pt g22 0), (9, pt g150 0), (10, pt g176 0), (11, .bool x168.2), (55, .bool false), (59, .bool false), (60, .agg #[.int .u64 (law11_right a1).Lo, .int .u64 (law11_right a1).Hi]), (61, .int .u64 a3)] (by kernel_rfl) ?_
     refine WR.call (dst := some 62) (by kernel_rfl) (span_Has_any (law11_right a1) a3 w270  ⟨(by omega), (by omega)⟩ (by omega) ) ?_
     rintro _ w278 hc279 rfl
     have hz281 := hc279.size
     have hC280 := hC272.pure hc279
     refine WR.batch 1 [(3, .int .u64 a3), (4, pt g2 0), (5, pt g12 0), (6, pt g22 0), (9, pt g150 0), (10, pt g176 0), (11, .bool x168.2), (55, .bool false), (63, .bool (span_Has (law11_right a1) a3))] (by kernel_rfl) ?_
     exact WR.keep [3, 4, 5, 6, 9, 10, 11, 55, 63] (by kernel_rfl) (hM275 _ ((Chg.refl [] w270).pure hc279))
    ·
     have hk282 := hg274
     intro hM275
     refine WR.batch 4 [(3, .int .u64 a3), (4, pt g2 0), (5, pt g12 0), (6, pt g22 0), (9, pt g150 0), (10, pt g176 0), (11, .bool x168.2), (55, .bool false), (63, .bool true)] (by kernel_rfl) ?_
     exact WR.keep [3, 4, 5, 6, 9, 10, 11, 55, 63] (by kernel_rfl) (hM275 _ (Chg.refl [] w270))
   intro w283 hc284
   have hz286 := hc284.size
   have hC285 := hC272.pure hc284
   have hx287 : IU64 (law11_right a0).Lo ∧ IU64 (law11_right a0).Hi := law11_right_ok a0 ⟨(by omega), (by omega)⟩ 
   have hx288 : IU64 (law11_right a1).Lo ∧ IU64 (law11_right a1).Hi := law11_right_ok a1 ⟨(by omega), (by omega)⟩ 
   refine WR.batch 1 [(3, .int .u64 a3), (4, pt g2 0), (5, pt g12 0), (6, pt g22 0), (9, pt g150 0), (10, pt g176 0), (11, .bool x168.2), (55, .bool false), (64, .bool ((span_Has (law11_right a0) a3) || (span_Has (law11_right a1) a3)))] (by kernel_rfl) ?_
   refine WR.mergeW 41 [(3, .int .u64 a3), (4, pt g2 0), (5, pt g12 0), (6, pt g22 0), (9, pt g150 0), (10, pt g176 0), (11, .bool x168.2), (55, .bool false), (69, .bool (((span_Has (law11_right a0) a3) || (span_Has (law11_right a1) a3)) && (!(span_Has x142 a3))))] (fun w' => Chg [] w283 w') (fun Q' => ?_) ?_
   ·
    cases hg289 : ((span_Has (law11_right a0) a3) || (span_Has (law11_right a1) a3))
    ·
     have hk291 := hg289
     replace hg289 : ((span_Has (law11_right a0) a3) = false) ∧ ((span_Has (law11_right a1) a3) = false) := ⟨(bOrF hg289).1, (bOrF hg289).2⟩
     intro hM290
     refine WR.batch 5 [(3, .int .u64 a3), (4, pt g2 0), (5, pt g12 0), (6, pt g22 0), (9, pt g150 0), (10, pt g176 0), (11, .bool x168.2), (55, .bool false), (69, .bool false)] (by kernel_rfl) ?_
     exact WR.keep [3, 4, 5, 6, 9, 10, 11, 55, 69] (by kernel_rfl) (hM290 _ (Chg.refl [] w283))
    ·
     have hk292 := hg289
     replace hg289 : ((span_Has (law11_right a0) a3) = true) ∨ ((span_Has (law11_right a1) a3) = true) := (orMap (bOrT hg289) (fun h => h) (fun h => h))
     intro hM290
     have hb293 := ((((hb194.pure hc199).pure hc213).pure hc261).pure hc271).pure hc284
     refine WR.load (dst := some 65) (t := 25) (o := 0) hb293 (by kernel_rfl) (.agg #[.int .u64 x142.Lo, .int .u64 x142.Hi]) (by kernel_rfl) ?_
     refine WR.batch 1 [(3, .int .u64 a3), (4, pt g2 0), (5, pt g12 0), (6, pt g22 0), (9, pt g150 0), (10, pt g176 0), (11, .bool x168.2), (55, .bool false), (64, .bool true), (65, .agg #[.int .u64 x142.Lo, .int .u64 x142.Hi]), (66, .int .u64 a3)] (by kernel_rfl) ?_
     refine WR.call (dst := some 67) (by kernel_rfl) (span_Has_any x142 a3 w283  ⟨(by omega), (by omega)⟩ (by omega) ) ?_
     rintro _ w294 hc295 rfl
     have hz297 := hc295.size
     have hC296 := hC285.pure hc295
     refine WR.batch 2 [(3, .int .u64 a3), (4, pt g2 0), (5, pt g12 0), (6, pt g22 0), (9, pt g150 0), (10, pt g176 0), (11, .bool x168.2), (55, .bool false), (69, .bool (!(span_Has x142 a3)))] (by kernel_rfl) ?_
     exact WR.keep [3, 4, 5, 6, 9, 10, 11, 55, 69] (by kernel_rfl) (hM290 _ ((Chg.refl [] w283).pure hc295))
   intro w298 hc299
   have hz301 := hc299.size
   have hC300 := hC285.pure hc299
   have hx302 : IU64 (law11_right a0).Lo ∧ IU64 (law11_right a0).Hi := law11_right_ok a0 ⟨(by omega), (by omega)⟩ 
   have hx303 : IU64 (law11_right a1).Lo ∧ IU64 (law11_right a1).Hi := law11_right_ok a1 ⟨(by omega), (by omega)⟩ 
   refine WR.batch 1 [(3, .int .u64 a3), (4, pt g2 0), (5, pt g12 0), (6, pt g22 0), (9, pt g150 0), (10, pt g176 0), (11, .bool x168.2), (70, .bool (((span_Has (law11_right a0) a3) || (span_Has (law11_right a1) a3)) && (!(span_Has x142 a3))))] (by kernel_rfl) ?_
   exact WR.keep [3, 4, 5, 6, 9, 10, 11, 70] (by kernel_rfl) (hM267 _ ((((Chg.refl [] w260).pure hc271).pure hc284).pure hc299))
  ·
   have hk304 := hg266
   replace hg266 : ((x195 = false) ∨ ((span_Within (law11_right a1) x142) = false)) ∨ ((((span_Within (law11_right a0) x113) = true) ∧ ((span_Within (law11_right a1) x113) = true)) ∧ ((span_Within x142 x113) = false)) := (orMap (bOrT hg266) (fun h => (orMap (bOrT h) (fun h => (bNotT h)) (fun h => (bNotT h)))) (fun h => ⟨⟨(bAndT (bAndT h).1).1, (bAndT (bAndT h).1).2⟩, (bNotT (bAndT h).2)⟩))
   intro hM267
   refine WR.batch 15 [(3, .int .u64 a3), (4, pt g2 0), (5, pt g12 0), (6, pt g22 0), (9, pt g150 0), (10, pt g176 0), (11, .bool x168.2), (70, .bool true)] (by kernel_rfl) ?_
   exact WR.keep [3, 4, 5, 6, 9, 10, 11, 70] (by kernel_rfl) (hM267 _ (Chg.refl [] w260))
 intro w305 hc306
 have hz308 := hc306.size
 have hC307 := hC262.pure hc306
 have hx309 : IU64 (law11_right a0).Lo ∧ IU64 (law11_right a0).Hi := law11_right_ok a0 ⟨(by omega), (by omega)⟩ 
 have hx310 : IU64 (law11_right a1).Lo ∧ IU64 (law11_right a1).Hi := law11_right_ok a1 ⟨(by omega), (by omega)⟩ 
 refine WR.fin (by kernel_rfl) ?_
 refine go hK192 ?_
 refine CW.cond (((((!x195) || (!(span_Within (law11_right a1) x142))) || (((span_Within (law11_right a0) x113) && (span_Within (law11_right a1) x113)) && (!(span_Within x142 x113)))) || (((span_Has (law11_right a0) a3) || (span_Has (law11_right a1) a3)) && (!(span_Has x142 a3))))) (by kernel_rfl) (fun ht311 => ?_) (fun ht311 => ?_)
 ·
  have hs312 := ifT ht311 hs197
  replace ht311 : (((x195 = false) ∨ ((span_Within (law11_right a1) x142) = false)) ∨ ((((span_Within (law11_right a0) x113) = true) ∧ ((span_Within (law11_right a1) x113) = true)) ∧ ((span_Within x142 x113) = false))) ∨ ((((span_Has (law11_right a0) a3) = true) ∨ ((span_Has (law11_right a1) a3) = true)) ∧ ((span_Has x142 a3) = false)) := (orMap (bOrT ht311) (fun h => (orMap (bOrT h) (fun h => (orMap (bOrT h) (fun h => (bNotT h)) (fun h => (bNotT h)))) (fun h => ⟨⟨(bAndT (bAndT h).1).1, (bAndT (bAndT h).1).2⟩, (bNotT (bAndT h).2)⟩))) (fun h => ⟨(orMap (bOrT (bAndT h).1) (fun h => h) (fun h => h)), (bNotT (bAndT h).2)⟩))
  refine CW.seq fun K313 hK313 => ?_
  refine CW.region ?_
  refine WR.batch 1 [(8, .bool false)] (by kernel_rfl) ?_
  refine WR.fin (by kernel_rfl) ?_
  refine go hK313 ?_
  refine CW.ret ?_
  exact retV (.bool false) (by kernel_rfl) (⟨hC307, (congrArg (fun r : Bool => (.bool r : Value)) hs312).symm⟩)
 have hs314 := ifF ht311 hs197
 replace ht311 : (((x195 = true) ∧ ((span_Within (law11_right a1) x142) = true)) ∧ ((((span_Within (law11_right a0) x113) = false) ∨ ((span_Within (law11_right a1) x113) = false)) ∨ ((span_Within x142 x113) = true))) ∧ ((((span_Has (law11_right a0) a3) = false) ∧ ((span_Has (law11_right a1) a3) = false)) ∨ ((span_Has x142 a3) = true)) := ⟨⟨⟨(bNotF (bOrF (bOrF (bOrF ht311).1).1).1), (bNotF (bOrF (bOrF (bOrF ht311).1).1).2)⟩, (orMap (bAndF (bOrF (bOrF ht311).1).2) (fun h => (orMap (bAndF h) (fun h => h) (fun h => h))) (fun h => (bNotF h)))⟩, (orMap (bAndF (bOrF ht311).2) (fun h => ⟨(bOrF h).1, (bOrF h).2⟩) (fun h => (bNotF h)))⟩
 refine CW.skip ?_
 refine go hK191 ?_
 refine CW.seq fun K315 hK315 => ?_
 refine CW.seq fun K316 hK316 => ?_
 refine CW.regionQ (by kernel_rfl) (by kernel_rfl) ?_
 have hb317 := (((hb193.pure hc199).pure hc213).pure hc261).pure hc306
 refine WQ.load (dst := some 71) (t := 25) (o := 0) (fun _ hq => hb317.pure hq) (by kernel_rfl) (.agg #[.int .u64 (law11_right a0).Lo, .int .u64 (law11_right a0).Hi]) (by kernel_rfl) ?_
 refine WQ.val (dst := some 72) (.int .u64 a3) (fun _ => by kernel_rfl) ?_
 obtain ⟨x318, hx319⟩ : ∃ x, span_Has (law11_right a0) a3 = x := ⟨_, rfl⟩
 have hs320 := letS hx319 hs314
 refine WQ.call (dst := some 73) (.bool x318) (fun _ => by kernel_rfl) (fun _ _ h h' => h.pure h') (fun wq hq => retE (g := (fun r : Bool => (.bool r : Value))) hx319 (span_Has_any (law11_right a0) a3 wq  ⟨(by omega), (by omega)⟩ (by omega) )) ?_
 refine WQ.val (dst := some 74) (.bool x318) (fun _ => by kernel_rfl) ?_
 refine WQ.merge 8 [(3, .int .u64 a3), (4, pt g2 0), (5, pt g12 0), (6, pt g22 0), (9, pt g150 0), (10, pt g176 0), (11, .bool x168.2), (78, .bool (x318 && (span_Has (law11_right a1) a3)))] (fun Q' => ?_) ?_
 ·
  cases hg321 : x318
  ·
   have hk323 := hg321
   intro hM322
   refine WQ.pass1 (dst := some 75) (by kernel_rfl) ?_
   refine WQ.pass1 (dst := some 76) (by kernel_rfl) ?_
   refine WQ.pass1 (dst := some 77) (by kernel_rfl) ?_
   refine WQ.val (dst := some 78) (.bool false) (fun _ => by kernel_rfl) ?_
   exact WQ.keep [3, 4, 5, 6, 9, 10, 11, 78] (by kernel_rfl) hM322
  ·
   have hk324 := hg321
   intro hM322
   have hb325 := ((((((hb167.pure hc173).pure hc181).chg1 hc188 (by omega)).pure hc199).pure hc213).pure hc261).pure hc306
   refine WQ.load (dst := some 75) (t := 25) (o := 0) (fun _ hq => hb325.pure hq) (by kernel_rfl) (.agg #[.int .u64 (law11_right a1).Lo, .int .u64 (law11_right a1).Hi]) (by kernel_rfl) ?_
   refine WQ.val (dst := some 76) (.int .u64 a3) (fun _ => by kernel_rfl) ?_
   refine WQ.call (dst := some 77) (.bool (span_Has (law11_right a1) a3)) (fun _ => by kernel_rfl) (fun _ _ h h' => h.pure h') (fun wq hq => span_Has_any (law11_right a1) a3 wq  ⟨(by omega), (by omega)⟩ (by omega) ) ?_
   refine WQ.val (dst := some 78) (.bool (span_Has (law11_right a1) a3)) (fun _ => by kernel_rfl) ?_
   exact WQ.keep [3, 4, 5, 6, 9, 10, 11, 78] (by kernel_rfl) hM322
 have hx326 : IU64 (law11_right a0).Lo ∧ IU64 (law11_right a0).Hi := law11_right_ok a0 ⟨(by omega), (by omega)⟩ 
 have hx327 : IU64 (law11_right a1).Lo ∧ IU64 (law11_right a1).Hi := law11_right_ok a1 ⟨(by omega), (by omega)⟩ 
 refine WQ.val (dst := some 79) (.bool x168.2) (fun _ => by kernel_rfl) ?_
 refine WQ.val (dst := some 80) (.bool x168.2) (fun _ => by kernel_rfl) ?_
 refine WQ.merge 14 [(4, pt g2 0), (5, pt g12 0), (6, pt g22 0), (9, pt g150 0), (10, pt g176 0), (11, .bool x168.2), (78, .bool (x318 && (span_Has (law11_right a1) a3))), (84, .bool (x168.2 && (span_Has x168.1 a3)))] (fun Q' => ?_) ?_
 ·
  cases hg328 : x168.2
  ·
   have hk330 := hg328
   intro hM329
   refine WQ.pass1 (dst := some 81) (by kernel_rfl) ?_
   refine WQ.pass1 (dst := some 82) (by kernel_rfl) ?_
   refine WQ.pass1 (dst := some 83) (by kernel_rfl) ?_
   refine WQ.val (dst := some 84) (.bool false) (fun _ => by kernel_rfl) ?_
   exact WQ.keep [4, 5, 6, 9, 10, 11, 78, 84] (by kernel_rfl) hM329
  ·
   have hk331 := hg328
   intro hM329
   have hb332 := (((hb187.pure hc199).pure hc213).pure hc261).pure hc306
   refine WQ.load (dst := some 81) (t := 25) (o := 0) (fun _ hq => hb332.pure hq) (by kernel_rfl) (.agg #[.int .u64 x168.1.Lo, .int .u64 x168.1.Hi]) (by kernel_rfl) ?_
   refine WQ.val (dst := some 82) (.int .u64 a3) (fun _ => by kernel_rfl) ?_
   refine WQ.call (dst := some 83) (.bool (span_Has x168.1 a3)) (fun _ => by kernel_rfl) (fun _ _ h h' => h.pure h') (fun wq hq => span_Has_any x168.1 a3 wq  ⟨(by omega), (by omega)⟩ (by omega) ) ?_
   refine WQ.val (dst := some 84) (.bool (span_Has x168.1 a3)) (fun _ => by kernel_rfl) ?_
   exact WQ.keep [4, 5, 6, 9, 10, 11, 78, 84] (by kernel_rfl) hM329
 have hx333 : IU64 (law11_right a0).Lo ∧ IU64 (law11_right a0).Hi := law11_right_ok a0 ⟨(by omega), (by omega)⟩ 
 have hx334 : IU64 (law11_right a1).Lo ∧ IU64 (law11_right a1).Hi := law11_right_ok a1 ⟨(by omega), (by omega)⟩ 
 refine WQ.val (dst := some 85) (.bool ((x318 && (span_Has (law11_right a1) a3)) != (x168.2 && (span_Has x168.1 a3)))) (fun _ => by kernel_rfl) ?_
 refine WQ.val (dst := some 86) (.bool ((x318 && (span_Has (law11_right a1) a3)) != (x168.2 && (span_Has x168.1 a3)))) (fun _ => by kernel_rfl) ?_
 refine WQ.merge 37 [(4, pt g2 0), (5, pt g12 0), (9, pt g150 0), (107, .bool (((x318 && (span_Has (law11_right a1) a3)) != (x168.2 && (span_Has x168.1 a3))) || ((span_Within x113 (law11_right a0)) && ((span_Within x113 (law11_right a1)) != (x168.2 && (span_Within x113 x168.1))))))] (fun Q' => ?_) ?_
 ·
  cases hg335 : ((x318 && (span_Has (law11_right a1) a3)) != (x168.2 && (span_Has x168.1 a3)))
  ·
   have hk337 := hg335
   replace hg335 : (x318 && (span_Has (law11_right a1) a3)) = (x168.2 && (span_Has x168.1 a3)) := (bNeF hg335)
   intro hM336
   have hb338 := (((((((((hb134.pure hc147).pure hc155).chg1 hc162 (by omega)).pure hc173).pure hc181).chg1 hc188 (by omega)).pure hc199).pure hc213).pure hc261).pure hc306
   refine WQ.load (dst := some 87) (t := 25) (o := 0) (fun _ hq => hb338.pure hq) (by kernel_rfl) (.agg #[.int .u64 x113.Lo, .int .u64 x113.Hi]) (by kernel_rfl) ?_
   refine WQ.load (dst := some 88) (t := 25) (o := 0) (fun _ hq => hb317.pure hq) (by kernel_rfl) (.agg #[.int .u64 (law11_right a0).Lo, .int .u64 (law11_right a0).Hi]) (by kernel_rfl) ?_
   refine WQ.call (dst := some 89) (.bool (span_Within x113 (law11_right a0))) (fun _ => by kernel_rfl) (fun _ _ h h' => h.pure h') (fun wq hq => span_Within_any x113 (law11_right a0) wq  ⟨(by omega), (by omega)⟩ ⟨(by omega), (by omega)⟩ ) ?_
   refine WQ.val (dst := some 90) (.bool (span_Within x113 (law11_right a0))) (fun _ => by kernel_rfl) ?_
   refine WQ.merge 36 [(4, pt g2 0), (5, pt g12 0), (9, pt g150 0), (86, .bool false), (106, .bool ((span_Within x113 (law11_right a0)) && ((span_Within x113 (law11_right a1)) != (x168.2 && (span_Within x113 x168.1)))))] (fun Q' => ?_) ?_
   ·
    cases hg339 : (span_Within x113 (law11_right a0))
    ·
     have hk341 := hg339
     intro hM340
     refine WQ.pass1 (dst := some 91) (by kernel_rfl) ?_
     refine WQ.pass1 (dst := some 92) (by kernel_rfl) ?_
     refine WQ.pass1 (dst := some 93) (by kernel_rfl) ?_
     refine WQ.pass1 (dst := some 94) (by kernel_rfl) ?_
     refine WQ.pass1 (dst := some 95) (by kernel_rfl) ?_
     refine WQ.pass1 (dst := some 96) (by kernel_rfl) ?_
     refine WQ.pass1 (dst := some 97) (by kernel_rfl) ?_
     refine WQ.pass1 (dst := some 98) (by kernel_rfl) ?_
     refine WQ.pass1 (dst := some 99) (by kernel_rfl) ?_
     refine WQ.pass1 (dst := some 100) (by kernel_rfl) ?_
     refine WQ.pass1 (dst := some 101) (by kernel_rfl) ?_
     refine WQ.pass1 (dst := some 102) (by kernel_rfl) ?_
     refine WQ.pass1 (dst := some 103) (by kernel_rfl) ?_
     refine WQ.pass1 (dst := some 104) (by kernel_rfl) ?_
     refine WQ.pass1 (dst := some 105) (by kernel_rfl) ?_
     refine WQ.val (dst := some 106) (.bool false) (fun _ => by kernel_rfl) ?_
     exact WQ.keep [4, 5, 9, 86, 106] (by kernel_rfl) hM340
    ·
     have hk342 := hg339
     intro hM340
     refine WQ.load (dst := some 91) (t := 25) (o := 0) (fun _ hq => hb338.pure hq) (by kernel_rfl) (.agg #[.int .u64 x113.Lo, .int .u64 x113.Hi]) (by kernel_rfl) ?_
     have hb343 := ((((((hb167.pure hc173).pure hc181).chg1 hc188 (by omega)).pure hc199).pure hc213).pure hc261).pure hc306
     refine WQ.load (dst := some 92) (t := 25) (o := 0) (fun _ hq => hb343.pure hq) (by kernel_rfl) (.agg #[.int .u64 (law11_right a1).Lo, .int .u64 (law11_right a1).Hi]) (by kernel_rfl) ?_
     refine WQ.call (dst := some 93) (.bool (span_Within x113 (law11_right a1))) (fun _ => by kernel_rfl) (fun _ _ h h' => h.pure h') (fun wq hq => span_Within_any x113 (law11_right a1) wq  ⟨(by omega), (by omega)⟩ ⟨(by omega), (by omega)⟩ ) ?_
     refine WQ.load (dst := some 94) (t := 25) (o := 0) (fun _ hq => hb338.pure hq) (by kernel_rfl) (.agg #[.int .u64 x113.Lo, .int .u64 x113.Hi]) (by kernel_rfl) ?_
     refine WQ.load (dst := some 95) (t := 25) (o := 0) (fun _ hq => hb317.pure hq) (by kernel_rfl) (.agg #[.int .u64 (law11_right a0).Lo, .int .u64 (law11_right a0).Hi]) (by kernel_rfl) ?_
     refine WQ.call (dst := some 96) (.bool (span_Within x113 (law11_right a0))) (fun _ => by kernel_rfl) (fun _ _ h h' => h.pure h') (fun wq hq => span_Within_any x113 (law11_right a0) wq  ⟨(by omega), (by omega)⟩ ⟨(by omega), (by omega)⟩ ) ?_
     refine WQ.val (dst := some 97) (.bool (span_Within x113 (law11_right a0))) (fun _ => by kernel_rfl) ?_
     have hk344 : (span_Within x113 (law11_right a0)) = true := hk342
     rw [hk344]
     refine WQ.val (dst := some 98) (.bool x168.2) (fun _ => by kernel_rfl) ?_
     refine WQ.val (dst := some 99) (.bool x168.2) (fun _ => by kernel_rfl) ?_
     refine WQ.val (dst := some 100) (.bool x168.2) (fun _ => by kernel_rfl) ?_
     refine WQ.merge 34 [(4, pt g2 0), (5, pt g12 0), (9, pt g150 0), (86, .bool false), (90, .bool true), (93, .bool (span_Within x113 (law11_right a1))), (104, .bool (x168.2 && (span_Within x113 x168.1)))] (fun Q' => ?_) ?_
     ·
      cases hg345 : x168.2
      ·
       have hk347 := hg345
       intro hM346
       refine WQ.pass1 (dst := some 101) (by kernel_rfl) ?_
       refine WQ.pass1 (dst := some 102) (by kernel_rfl) ?_
       refine WQ.pass1 (dst := some 103) (by kernel_rfl) ?_
       refine WQ.val (dst := some 104) (.bool false) (fun _ => by kernel_rfl) ?_
       exact WQ.keep [4, 5, 9, 86, 90, 93, 104] (by kernel_rfl) hM346
      ·
       have hk348 := hg345
       intro hM346
       refine WQ.load (dst := some 101) (t := 25) (o := 0) (fun _ hq => hb338.pure hq) (by kernel_rfl) (.agg #[.int .u64 x113.Lo, .int .u64 x113.Hi]) (by kernel_rfl) ?_
       have hb349 := (((hb187.pure hc199).pure hc213).pure hc261).pure hc306
       refine WQ.load (dst := some 102) (t := 25) (o := 0) (fun _ hq => hb349.pure hq) (by kernel_rfl) (.agg #[.int .u64 x168.1.Lo, .int .u64 x168.1.Hi]) (by kernel_rfl) ?_
       refine WQ.call (dst := some 103) (.bool (span_Within x113 x168.1)) (fun _ => by kernel_rfl) (fun _ _ h h' => h.pure h') (fun wq hq => span_Within_any x113 x168.1 wq  ⟨(by omega), (by omega)⟩ ⟨(by omega), (by omega)⟩ ) ?_
       refine WQ.val (dst := some 104) (.bool (span_Within x113 x168.1)) (fun _ => by kernel_rfl) ?_
       exact WQ.keep [4, 5, 9, 86, 90, 93, 104] (by kernel_rfl) hM346
     have hx350 : IU64 (law11_right a0).Lo ∧ IU64 (law11_right a0).Hi := law11_right_ok a0 ⟨(by omega), (by omega)⟩ 
     have hx351 : IU64 (law11_right a1).Lo ∧ IU64 (law11_right a1).Hi := law11_right_ok a1 ⟨(by omega), (by omega)⟩ 
     refine WQ.val (dst := some 105) (.bool ((span_Within x113 (law11_right a1)) != (x168.2 && (span_Within x113 x168.1)))) (fun _ => by kernel_rfl) ?_
     refine WQ.val (dst := some 106) (.bool ((span_Within x113 (law11_right a1)) != (x168.2 && (span_Within x113 x168.1)))) (fun _ => by kernel_rfl) ?_
     exact WQ.keep [4, 5, 9, 86, 106] (by kernel_rfl) hM340
   have hx352 : IU64 (law11_right a0).Lo ∧ IU64 (law11_right a0).Hi := law11_right_ok a0 ⟨(by omega), (by omega)⟩ 
   have hx353 : IU64 (law11_right a1).Lo ∧ IU64 (law11_right a1).Hi := law11_right_ok a1 ⟨(by omega), (by omega)⟩ 
   refine WQ.val (dst := some 107) (.bool ((span_Within x113 (law11_right a0)) && ((span_Within x113 (law11_right a1)) != (x168.2 && (span_Within x113 x168.1))))) (fun _ => by kernel_rfl) ?_
   exact WQ.keep [4, 5, 9, 107] (by kernel_rfl) hM336
  ·
   have hk354 := hg335
   replace hg335 : (x318 && (span_Has (law11_right a1) a3)) ≠ (x168.2 && (span_Has x168.1 a3)) := (bNeT hg335)
   intro hM336
   refine WQ.pass1 (dst := some 87) (by kernel_rfl) ?_
   refine WQ.pass1 (dst := some 88) (by kernel_rfl) ?_
   refine WQ.pass1 (dst := some 89) (by kernel_rfl) ?_
   refine WQ.pass1 (dst := some 90) (by kernel_rfl) ?_
   refine WQ.pass1 (dst := some 91) (by kernel_rfl) ?_
   refine WQ.pass1 (dst := some 92) (by kernel_rfl) ?_
   refine WQ.pass1 (dst := some 93) (by kernel_rfl) ?_
   refine WQ.pass1 (dst := some 94) (by kernel_rfl) ?_
   refine WQ.pass1 (dst := some 95) (by kernel_rfl) ?_
   refine WQ.pass1 (dst := some 96) (by kernel_rfl) ?_
   refine WQ.pass1 (dst := some 97) (by kernel_rfl) ?_
   refine WQ.pass1 (dst := some 98) (by kernel_rfl) ?_
   refine WQ.pass1 (dst := some 99) (by kernel_rfl) ?_
   refine WQ.pass1 (dst := some 100) (by kernel_rfl) ?_
   refine WQ.pass1 (dst := some 101) (by kernel_rfl) ?_
   refine WQ.pass1 (dst := some 102) (by kernel_rfl) ?_
   refine WQ.pass1 (dst := some 103) (by kernel_rfl) ?_
   refine WQ.pass1 (dst := some 104) (by kernel_rfl) ?_
   refine WQ.pass1 (dst := some 105) (by kernel_rfl) ?_
   refine WQ.pass1 (dst := some 106) (by kernel_rfl) ?_
   refine WQ.val (dst := some 107) (.bool true) (fun _ => by kernel_rfl) ?_
   exact WQ.keep [4, 5, 9, 107] (by kernel_rfl) hM336
 have hx355 : IU64 (law11_right a0).Lo ∧ IU64 (law11_right a0).Hi := law11_right_ok a0 ⟨(by omega), (by omega)⟩ 
 have hx356 : IU64 (law11_right a1).Lo ∧ IU64 (law11_right a1).Hi := law11_right_ok a1 ⟨(by omega), (by omega)⟩ 
 refine WQ.fin (by kernel_rfl) ?_
 intro w357 hc358
 have hz360 := hc358.size
 have hC359 := hC307.pure hc358
 refine go hK316 ?_
 refine CW.cond ((((x318 && (span_Has (law11_right a1) a3)) != (x168.2 && (span_Has x168.1 a3))) || ((span_Within x113 (law11_right a0)) && ((span_Within x113 (law11_right a1)) != (x168.2 && (span_Within x113 x168.1)))))) (by kernel_rfl) (fun ht361 => ?_) (fun ht361 => ?_)
 ·
  have hs362 := ifT ht361 hs320
  replace ht361 : ((x318 && (span_Has (law11_right a1) a3)) ≠ (x168.2 && (span_Has x168.1 a3))) ∨ (((span_Within x113 (law11_right a0)) = true) ∧ ((span_Within x113 (law11_right a1)) ≠ (x168.2 && (span_Within x113 x168.1)))) := (orMap (bOrT ht361) (fun h => (bNeT h)) (fun h => ⟨(bAndT h).1, (bNeT (bAndT h).2)⟩))
  refine CW.seq fun K363 hK363 => ?_
  refine CW.region ?_
  refine WR.batch 1 [(8, .bool false)] (by kernel_rfl) ?_
  refine WR.fin (by kernel_rfl) ?_
  refine go hK363 ?_
  refine CW.ret ?_
  exact retV (.bool false) (by kernel_rfl) (⟨hC359, (congrArg (fun r : Bool => (.bool r : Value)) hs362).symm⟩)
 have hs364 := ifF ht361 hs320
 replace ht361 : ((x318 && (span_Has (law11_right a1) a3)) = (x168.2 && (span_Has x168.1 a3))) ∧ (((span_Within x113 (law11_right a0)) = false) ∨ ((span_Within x113 (law11_right a1)) = (x168.2 && (span_Within x113 x168.1)))) := ⟨(bNeF (bOrF ht361).1), (orMap (bAndF (bOrF ht361).2) (fun h => h) (fun h => (bNeF h)))⟩
 refine CW.skip ?_
 refine go hK315 ?_
 refine CW.seq fun K365 hK365 => ?_
 refine CW.regionQ (by kernel_rfl) (by kernel_rfl) ?_
 have hb366 := (((((((hb167.pure hc173).pure hc181).chg1 hc188 (by omega)).pure hc199).pure hc213).pure hc261).pure hc306).pure hc358
 refine WQ.load (dst := some 108) (t := 25) (o := 0) (fun _ hq => hb366.pure hq) (by kernel_rfl) (.agg #[.int .u64 (law11_right a1).Lo, .int .u64 (law11_right a1).Hi]) (by kernel_rfl) ?_
 have hb367 := hb317.pure hc358
 refine WQ.load (dst := some 109) (t := 25) (o := 0) (fun _ hq => hb367.pure hq) (by kernel_rfl) (.agg #[.int .u64 (law11_right a0).Lo, .int .u64 (law11_right a0).Hi]) (by kernel_rfl) ?_
 obtain ⟨x368, hx369⟩ : ∃ x, span_Join (law11_right a1) (law11_right a0) = x := ⟨_, rfl⟩
 have hs371 := letS hx369 hs364
 have hx370 : IU64 x368.Lo ∧ IU64 x368.Hi := by have : IU64 (law11_right a0).Lo ∧ IU64 (law11_right a0).Hi := law11_right_ok a0 ⟨(by omega), (by omega)⟩ ; have : IU64 (law11_right a1).Lo ∧ IU64 (law11_right a1).Hi := law11_right_ok a1 ⟨(by omega), (by omega)⟩ ; rw [← hx369]; exact span_Join_ok (law11_right a1) (law11_right a0) ⟨(by omega), (by omega)⟩ ⟨(by omega), (by omega)⟩ 
 refine WQ.call (dst := some 110) (.agg #[.int .u64 x368.Lo, .int .u64 x368.Hi]) (fun _ => by kernel_rfl) (fun _ _ h h' => h.pure h') (fun wq hq => retE (g := TSpan.v) hx369 (span_Join_any (law11_right a1) (law11_right a0) wq  ⟨(by omega), (by omega)⟩ ⟨(by omega), (by omega)⟩ )) ?_
 have hb372 := ((((hb194.pure hc199).pure hc213).pure hc261).pure hc306).pure hc358
 refine WQ.load (dst := some 111) (t := 25) (o := 0) (fun _ hq => hb372.pure hq) (by kernel_rfl) (.agg #[.int .u64 x142.Lo, .int .u64 x142.Hi]) (by kernel_rfl) ?_
 refine WQ.val (dst := some 112) (.bool ((x368.Lo == x142.Lo) && (x368.Hi == x142.Hi))) (run_eqS (t := 25) (xs := #[.int .u64 x368.Lo, .int .u64 x368.Hi]) (ys := #[.int .u64 x142.Lo, .int .u64 x142.Hi]) (neg := false) (b := ((x368.Lo == x142.Lo) && (x368.Hi == x142.Hi))) (by kernel_rfl) (by kernel_rfl) (by kernel_rfl)) ?_
 refine WQ.val (dst := some 113) (.bool ((x368.Lo == x142.Lo) && (x368.Hi == x142.Hi))) (fun _ => by kernel_rfl) ?_
 refine WQ.merge 12 [(119, .bool (((x368.Lo == x142.Lo) && (x368.Hi == x142.Hi)) && (((span_Join (law11_right a0) (law11_right a0)).Lo == (law11_right a0).Lo) && ((span_Join (law11_right a0) (law11_right a0)).Hi == (law11_right a0).Hi))))] (fun Q' => ?_) ?_
 ·
  cases hg373 : ((x368.Lo == x142.Lo) && (x368.Hi == x142.Hi))
  ·
   have hk375 := hg373
   replace hg373 : (x368.Lo ≠ x142.Lo) ∨ (x368.Hi ≠ x142.Hi) := (orMap (bAndF hg373) (fun h => (bEqF h)) (fun h => (bEqF h)))
   intro hM374
   refine WQ.pass1 (dst := some 114) (by kernel_rfl) ?_
   refine WQ.pass1 (dst := some 115) (by kernel_rfl) ?_
   refine WQ.pass1 (dst := some 116) (by kernel_rfl) ?_
   refine WQ.pass1 (dst := some 117) (by kernel_rfl) ?_
   refine WQ.pass1 (dst := some 118) (by kernel_rfl) ?_
   refine WQ.val (dst := some 119) (.bool false) (fun _ => by kernel_rfl) ?_
   exact WQ.keep [119] (by kernel_rfl) hM374
  ·
   have hk376 := hg373
   replace hg373 : (x368.Lo = x142.Lo) ∧ (x368.Hi = x142.Hi) := ⟨(bEqT (bAndT hg373).1), (bEqT (bAndT hg373).2)⟩
   intro hM374
   refine WQ.load (dst := some 114) (t := 25) (o := 0) (fun _ hq => hb367.pure hq) (by kernel_rfl) (.agg #[.int .u64 (law11_right a0).Lo, .int .u64 (law11_right a0).Hi]) (by kernel_rfl) ?_
   refine WQ.load (dst := some 115) (t := 25) (o := 0) (fun _ hq => hb367.pure hq) (by kernel_rfl) (.agg #[.int .u64 (law11_right a0).Lo, .int .u64 (law11_right a0).Hi]) (by kernel_rfl) ?_
   have hx377 : IU64 (span_Join (law11_right a0) (law11_right a0)).Lo ∧ IU64 (span_Join (law11_right a0) (law11_right a0)).Hi := span_Join_ok (law11_right a0) (law11_right a0) ⟨(by omega), (by omega)⟩ ⟨(by omega), (by omega)⟩ 
   refine WQ.call (dst := some 116) (.agg #[.int .u64 (span_Join (law11_right a0) (law11_right a0)).Lo, .int .u64 (span_Join (law11_right a0) (law11_right a0)).Hi]) (fun _ => by kernel_rfl) (fun _ _ h h' => h.pure h') (fun wq hq => span_Join_any (law11_right a0) (law11_right a0) wq  ⟨(by omega), (by omega)⟩ ⟨(by omega), (by omega)⟩ ) ?_
   refine WQ.load (dst := some 117) (t := 25) (o := 0) (fun _ hq => hb367.pure hq) (by kernel_rfl) (.agg #[.int .u64 (law11_right a0).Lo, .int .u64 (law11_right a0).Hi]) (by kernel_rfl) ?_
   refine WQ.val (dst := some 118) (.bool (((span_Join (law11_right a0) (law11_right a0)).Lo == (law11_right a0).Lo) && ((span_Join (law11_right a0) (law11_right a0)).Hi == (law11_right a0).Hi))) (run_eqS (t := 25) (xs := #[.int .u64 (span_Join (law11_right a0) (law11_right a0)).Lo, .int .u64 (span_Join (law11_right a0) (law11_right a0)).Hi]) (ys := #[.int .u64 (law11_right a0).Lo, .int .u64 (law11_right a0).Hi]) (neg := false) (b := (((span_Join (law11_right a0) (law11_right a0)).Lo == (law11_right a0).Lo) && ((span_Join (law11_right a0) (law11_right a0)).Hi == (law11_right a0).Hi))) (by kernel_rfl) (by kernel_rfl) (by kernel_rfl)) ?_
   refine WQ.val (dst := some 119) (.bool (((span_Join (law11_right a0) (law11_right a0)).Lo == (law11_right a0).Lo) && ((span_Join (law11_right a0) (law11_right a0)).Hi == (law11_right a0).Hi))) (fun _ => by kernel_rfl) ?_
   exact WQ.keep [119] (by kernel_rfl) hM374
 have hx378 : IU64 (law11_right a0).Lo ∧ IU64 (law11_right a0).Hi := law11_right_ok a0 ⟨(by omega), (by omega)⟩ 
 have hx379 : IU64 (law11_right a1).Lo ∧ IU64 (law11_right a1).Hi := law11_right_ok a1 ⟨(by omega), (by omega)⟩ 
 have hx380 : IU64 (span_Join (law11_right a0) (law11_right a0)).Lo ∧ IU64 (span_Join (law11_right a0) (law11_right a0)).Hi := span_Join_ok (law11_right a0) (law11_right a0) ⟨(by omega), (by omega)⟩ ⟨(by omega), (by omega)⟩ 
 refine WQ.val (dst := some 8) (.bool (((x368.Lo == x142.Lo) && (x368.Hi == x142.Hi)) && (((span_Join (law11_right a0) (law11_right a0)).Lo == (law11_right a0).Lo) && ((span_Join (law11_right a0) (law11_right a0)).Hi == (law11_right a0).Hi)))) (fun _ => by kernel_rfl) ?_
 refine WQ.fin (by kernel_rfl) ?_
 intro w381 hc382
 have hz384 := hc382.size
 have hC383 := hC359.pure hc382
 refine go hK365 ?_
 refine CW.ret ?_
 exact retV (.bool (((x368.Lo == x142.Lo) && (x368.Hi == x142.Hi)) && (((span_Join (law11_right a0) (law11_right a0)).Lo == (law11_right a0).Lo) && ((span_Join (law11_right a0) (law11_right a0)).Hi == (law11_right a0).Hi)))) (by kernel_rfl) (⟨hC383, (congrArg (fun r : Bool => (.bool r : Value)) hs371).symm⟩)
end Go.V
