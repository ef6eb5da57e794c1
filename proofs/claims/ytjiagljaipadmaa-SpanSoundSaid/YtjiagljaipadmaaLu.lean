import Derived.Test.YtjiagljaipadmaaProg
import Derived.Test.YtjiagljaipadmaaLp
import Derived.Test.YtjiagljaipadmaaAi
namespace Go.V
open Go.RowKit Go.Proofs
def law11_SpanSound (a0 : Int) (a1 : Bool) (a2 : TSpan) (a3 : TSpan) (a4 : Int) (a5 : Int)  : Bool := (letF (law11_awake) fun x24 => (if (!x24) then false else (letF (law11_pick a0) fun x36 => (letF (law11_right a3) fun x86 => (letF (law11_member (law11_right a2) a4) fun x108 => (letF (law11_member x86 a5) fun x112 => (letF (alu_Do x36.1 a1 x108 x112) fun x121 => (letF (span_Do x36.1 a1 (law11_right a2) x86) fun x132 => (letF (span_Right x132) fun x157 => (if (((!x157) || ((x121.2 == (0 : Int)) && (!(span_Has x132 x121.1)))) || (a1 && (decide (x132.Hi > (4294967295 : Int))))) then false else (letF (alu_Is x36.2 a1 x108 x112) fun x211 => (letF (span_If x36.2 a1 x211.1 (law11_right a2) x86) fun x222 => ((((((((x211.2 == (0 : Int)) && x222.2.2) && (span_Right x222.1)) && (span_Right x222.2.1)) && (span_Has x222.1 x108)) && (span_Has x222.2.1 x112)) && (span_Within x222.1 (law11_right a2))) && (span_Within x222.2.1 x86))))))))))))))

set_option maxRecDepth 100000 in
set_option maxHeartbeats 4000000 in
theorem law11_SpanSound_any (a0 : Int) (a1 : Bool) (a2 : TSpan) (a3 : TSpan) (a4 : Int) (a5 : Int)   (w : World)  (_h_a0 : II64 a0) (_h_a2 : IU64 a2.Lo ∧ IU64 a2.Hi) (_h_a3 : IU64 a3.Lo ∧ IU64 a3.Hi) (_h_a4 : IU64 a4) (_h_a5 : IU64 a5)  : Calls Try.prog 7 #[.int .i64 a0, .bool a1, .agg #[.int .u64 a2.Lo, .int .u64 a2.Hi], .agg #[.int .u64 a3.Lo, .int .u64 a3.Hi], .int .u64 a4, .int .u64 a5] w (RetV w (.bool (law11_SpanSound a0 a1 a2 a3 a4 a5))) := by
 have hs := law11_SpanSound.eq_1 a0 a1 a2 a3 a4 a5
 refine calls_of_CW Try.func7 rfl (n := 127) Try.ntmps7 (by kernel_rfl) [0, 1, 2, 3, 4, 5] (F := [(0, .int .i64 a0), (1, .bool a1), (2, .agg #[.int .u64 a2.Lo, .int .u64 a2.Hi]), (3, .agg #[.int .u64 a3.Lo, .int .u64 a3.Hi]), (4, .int .u64 a4), (5, .int .u64 a5)]) (by kernel_rfl) ?_
 refine CW.seq fun K1 hK1 => ?_
 refine CW.region ?_
 refine WR.box (dst := some 8) (e := 25) (v := .agg #[.int .u64 a2.Lo, .int .u64 a2.Hi]) (by kernel_rfl) #[.int .u64 a2.Lo, .int .u64 a2.Hi] (by kernel_rfl) ?_
 intro g2 w3 hN4
 have hf6 : w.heap.size ≤ g2 := hN4.fresh
 have hfr8 := hN4.fresh
 have hc7 := hN4.chg
 have hz10 := hc7.size
 have hC9 := (Chg.refl [] w).pure hc7
 have hb5 := hN4.blk
 have hg11 := hb5.lt
 refine WR.box (dst := some 9) (e := 25) (v := .agg #[.int .u64 a3.Lo, .int .u64 a3.Hi]) (by kernel_rfl) #[.int .u64 a3.Lo, .int .u64 a3.Hi] (by kernel_rfl) ?_
 intro g12 w13 hN14
 have hf16 : w.heap.size ≤ g12 := Nat.le_trans hC9.size hN14.fresh
 have hfr18 := hN14.fresh
 have hc17 := hN14.chg
 have hz20 := hc17.size
 have hC19 := hC9.pure hc17
 have hb15 := hN14.blk
 have hg21 := hb15.lt
 refine WR.batch 1 [(0, .int .i64 a0), (1, .bool a1), (4, .int .u64 a4), (5, .int .u64 a5), (8, pt g2 0), (9, pt g12 0)] (by kernel_rfl) ?_
 refine WR.fin (by kernel_rfl) ?_
 refine go hK1 ?_
 refine CW.seq fun K22 hK22 => ?_
 refine CW.seq fun K23 hK23 => ?_
 refine CW.region ?_
 obtain ⟨x24, hx25⟩ : ∃ x, law11_awake = x := ⟨_, rfl⟩
 have hs26 := letS hx25 hs
 refine WR.call (dst := some 25) (by kernel_rfl) (retE (g := (fun r : Bool => (.bool r : Value))) hx25 (law11_awake_any  w13  )) ?_
 rintro _ w27 hc28 rfl
 have hz30 := hc28.size
 have hC29 := hC19.pure hc28
 refine WR.batch 1 [(0, .int .i64 a0), (1, .bool a1), (4, .int .u64 a4), (5, .int .u64 a5), (8, pt g2 0), (9, pt g12 0), (26, .bool (!x24))] (by kernel_rfl) ?_
 refine WR.fin (by kernel_rfl) ?_
 refine go hK23 ?_
 refine CW.cond ((!x24)) (by kernel_rfl) (fun ht31 => ?_) (fun ht31 => ?_)
 ·
  have hs32 := ifT ht31 hs26
  replace ht31 : x24 = false := (bNotT ht31)
  refine CW.seq fun K33 hK33 => ?_
  refine CW.region ?_
  refine WR.batch 1 [(12, .bool false)] (by kernel_rfl) ?_
  refine WR.fin (by kernel_rfl) ?_
  refine go hK33 ?_
  refine CW.ret ?_
  exact retV (.bool false) (by kernel_rfl) (⟨hC29, (congrArg (fun r : Bool => (.bool r : Value)) hs32).symm⟩)
 have hs34 := ifF ht31 hs26
 replace ht31 : x24 = true := (bNotF ht31)
 refine CW.skip ?_
 refine go hK22 ?_
 refine CW.seq fun K35 hK35 => ?_
 refine CW.region ?_
 refine WR.batch 1 [(1, .bool a1), (4, .int .u64 a4), (5, .int .u64 a5), (8, pt g2 0), (9, pt g12 0), (28, .int .i64 a0)] (by kernel_rfl) ?_
 obtain ⟨x36, hx37⟩ : ∃ x, law11_pick a0 = x := ⟨_, rfl⟩
 have hs39 := letS hx37 hs34
 have hx38 : IU8 x36.1 ∧ IU8 x36.2 := by rw [← hx37]; exact law11_pick_ok a0 (by omega) 
 refine WR.call (dst := some 29) (by kernel_rfl) (retE (g := (fun r : (Int × Int) => (.tuple #[.int .u8 r.1, .int .u8 r.2] : Value))) hx37 (law11_pick_any a0 w27  (by omega) )) ?_
 rintro _ w40 hc41 rfl
 have hz43 := hc41.size
 have hC42 := hC29.pure hc41
 refine WR.batch 5 [(1, .bool a1), (4, .int .u64 a4), (5, .int .u64 a5), (8, pt g2 0), (9, pt g12 0), (13, .int .u8 x36.1), (14, .int .u8 x36.2)] (by kernel_rfl) ?_
 refine WR.fin (by kernel_rfl) ?_
 refine go hK35 ?_
 refine CW.seq fun K44 hK44 => ?_
 refine CW.keep [1, 4, 5, 8, 9, 13, 14] (F' := [(1, .bool a1), (4, .int .u64 a4), (5, .int .u64 a5), (8, pt g2 0), (9, pt g12 0), (13, .int .u8 x36.1), (14, .int .u8 x36.2)]) (by kernel_rfl) ?_
 refine CW.regionG 3 [some (.agg #[.int .u64 a2.Lo, .int .u64 a2.Hi]), some (.agg #[.int .u64 (law11_right a2).Lo, .int .u64 (law11_right a2).Hi]), some (.agg #[.int .u64 a3.Lo, .int .u64 a3.Hi])] (fun u => [(32, .agg #[.int .u64 a2.Lo, .int .u64 a2.Hi]), (33, .agg #[.int .u64 (law11_right a2).Lo, .int .u64 (law11_right a2).Hi]), (34, .agg #[.int .u64 a3.Lo, .int .u64 a3.Hi]), (1, .bool a1), (4, .int .u64 a4), (5, .int .u64 a5), (8, pt g2 0), (9, pt g12 0), (13, .int .u8 x36.1), (14, .int .u8 x36.2)]) (fun _ => by kernel_rfl) (by kernel_rfl) [] (fun _ _ => True) (fun _ => trivial) (fun _ _ _ _ _ _ _ => trivial) [] [] (by kernel_rfl) (fun w' => Chg [] w40 w') (fun _ _ _ => True) (fun j x w hj h => absurd hj (by simp)) (by kernel_rfl) (by kernel_rfl) (by kernel_rfl) (by kernel_rfl) (Chg.drew w40) (fun _ _ _ h h' => h.step h' (fun t ht => .inl (cL_sub t ht))) (fun _ _ _ _ _ _ _ _ => trivial) ⟨?_, ⟨?_, ⟨?_, trivial⟩⟩⟩ ?_
 ·
  intro u45 w46 hW47 _ hp48 hal49
  have hz52 := hW47.size
  have hC51 := hC42.pure hW47
  have hb53 := (((hb5.pure hc17).pure hc28).pure hc41).pure hW47
  refine WR.load (dst := some 32) (t := 25) (o := 0) hb53 (by kernel_rfl) (.agg #[.int .u64 a2.Lo, .int .u64 a2.Hi]) (by kernel_rfl) ?_
  refine WR.fin (by kernel_rfl) ?_
  exact fun _ ha => ⟨Chg.refl _ _, _, ha, ⟨⟨fun h => absurd h (by decide), alNone (by decide)⟩, rfl⟩⟩
 ·
  intro u54 w55 hW56 _ hp57 hal58
  have hz61 := hW56.size
  have hC60 := hC42.pure hW56
  have hx62 : IU64 (law11_right a2).Lo ∧ IU64 (law11_right a2).Hi := law11_right_ok a2 ⟨(by omega), (by omega)⟩ 
  have hx63 : IU64 (law11_right a2).Lo ∧ IU64 (law11_right a2).Hi := law11_right_ok a2 ⟨(by omega), (by omega)⟩ 
  refine WR.call (dst := some 33) (by kernel_rfl) (law11_right_any a2 w55  ⟨(by omega), (by omega)⟩ ) ?_
  rintro _ w64 hc65 rfl
  have hz67 := hc65.size
  have hC66 := hC60.pure hc65
  refine WR.fin (by kernel_rfl) ?_
  exact fun _ ha => ⟨hc65, _, ha, ⟨⟨fun h => absurd h (by decide), alNone (by decide)⟩, rfl⟩⟩
 ·
  intro u68 w69 hW70 _ hp71 hal72
  have hz75 := hW70.size
  have hC74 := hC42.pure hW70
  have hb76 := ((hb15.pure hc28).pure hc41).pure hW70
  refine WR.load (dst := some 34) (t := 25) (o := 0) hb76 (by kernel_rfl) (.agg #[.int .u64 a3.Lo, .int .u64 a3.Hi]) (by kernel_rfl) ?_
  refine WR.fin (by kernel_rfl) ?_
  exact fun _ ha => ⟨Chg.refl _ _, _, ha, ⟨⟨fun h => absurd h (by decide), alNone (by decide)⟩, rfl⟩⟩
 intro u77 w78 hW79 _ _ _
 have hz84 := hW79.size
 have hC83 := hC42.pure hW79
 have hx85 : IU64 (law11_right a2).Lo ∧ IU64 (law11_right a2).Hi := law11_right_ok a2 ⟨(by omega), (by omega)⟩ 
 refine WR.keep [1, 4, 5, 8, 9, 13, 14, 33, 34] (F' := [(1, .bool a1), (4, .int .u64 a4), (5, .int .u64 a5), (8, pt g2 0), (9, pt g12 0), (13, .int .u8 x36.1), (14, .int .u8 x36.2), (33, .agg #[.int .u64 (law11_right a2).Lo, .int .u64 (law11_right a2).Hi]), (34, .agg #[.int .u64 a3.Lo, .int .u64 a3.Hi])]) (by kernel_rfl) ?_
 obtain ⟨x86, hx87⟩ : ∃ x, law11_right a3 = x := ⟨_, rfl⟩
 have hs89 := letS hx87 hs39
 have hx88 : IU64 x86.Lo ∧ IU64 x86.Hi := by rw [← hx87]; exact law11_right_ok a3 ⟨(by omega), (by omega)⟩ 
 refine WR.call (dst := some 35) (by kernel_rfl) (retE (g := TSpan.v) hx87 (law11_right_any a3 w78  ⟨(by omega), (by omega)⟩ )) ?_
 rintro _ w90 hc91 rfl
 have hz93 := hc91.size
 have hC92 := hC83.pure hc91
 have hb97 := ((((hb5.pure hc17).pure hc28).pure hc41).pure hW79).pure hc91
 refine WR.store (t := 25) (o := 0) (v := .agg #[.int .u64 (law11_right a2).Lo, .int .u64 (law11_right a2).Hi]) hb97 (by kernel_rfl) #[.int .u64 (law11_right a2).Lo, .int .u64 (law11_right a2).Hi] (by kernel_rfl) ?_
 intro w94 hb95 hc96
 have hz99 := hc96.size
 have hC98 := hC92.step1 hc96 (by omega)
 have hb103 := ((((hb15.pure hc28).pure hc41).pure hW79).pure hc91).chg1 hc96 (by omega)
 refine WR.store (t := 25) (o := 0) (v := .agg #[.int .u64 x86.Lo, .int .u64 x86.Hi]) hb103 (by kernel_rfl) #[.int .u64 x86.Lo, .int .u64 x86.Hi] (by kernel_rfl) ?_
 intro w100 hb101 hc102
 have hz105 := hc102.size
 have hC104 := hC98.step1 hc102 (by omega)
 refine WR.fin (by kernel_rfl) ?_
 refine go hK44 ?_
 refine CW.seq fun K106 hK106 => ?_
 refine CW.regionQ (by kernel_rfl) (by kernel_rfl) ?_
 have hb107 := hb95.chg1 hc102 (by omega)
 refine WQ.load (dst := some 36) (t := 25) (o := 0) (fun _ hq => hb107.pure hq) (by kernel_rfl) (.agg #[.int .u64 (law11_right a2).Lo, .int .u64 (law11_right a2).Hi]) (by kernel_rfl) ?_
 refine WQ.val (dst := some 37) (.int .u64 a4) (fun _ => by kernel_rfl) ?_
 obtain ⟨x108, hx109⟩ : ∃ x, law11_member (law11_right a2) a4 = x := ⟨_, rfl⟩
 have hs111 := letS hx109 hs89
 have hx110 : IU64 x108 := by have : IU64 (law11_right a2).Lo ∧ IU64 (law11_right a2).Hi := law11_right_ok a2 ⟨(by omega), (by omega)⟩ ; rw [← hx109]; exact law11_member_ok (law11_right a2) a4 ⟨(by omega), (by omega)⟩ (by omega) 
 refine WQ.call (dst := some 38) (.int .u64 x108) (fun _ => by kernel_rfl) (fun _ _ h h' => h.pure h') (fun wq hq => retE (g := (fun r : Int => (.int .u64 r : Value))) hx109 (law11_member_any (law11_right a2) a4 wq  ⟨(by omega), (by omega)⟩ (by omega) )) ?_
 refine WQ.load (dst := some 39) (t := 25) (o := 0) (fun _ hq => hb101.pure hq) (by kernel_rfl) (.agg #[.int .u64 x86.Lo, .int .u64 x86.Hi]) (by kernel_rfl) ?_
 refine WQ.val (dst := some 40) (.int .u64 a5) (fun _ => by kernel_rfl) ?_
 obtain ⟨x112, hx113⟩ : ∃ x, law11_member x86 a5 = x := ⟨_, rfl⟩
 have hs115 := letS hx113 hs111
 have hx114 : IU64 x112 := by rw [← hx113]; exact law11_member_ok x86 a5 ⟨(by omega), (by omega)⟩ (by omega) 
 refine WQ.call (dst := some 41) (.int .u64 x112) (fun _ => by kernel_rfl) (fun _ _ h h' => h.pure h') (fun wq hq => retE (g := (fun r : Int => (.int .u64 r : Value))) hx113 (law11_member_any x86 a5 wq  ⟨(by omega), (by omega)⟩ (by omega) )) ?_
 refine WQ.val (dst := some 15) (.int .u64 x108) (fun _ => by kernel_rfl) ?_
 refine WQ.val (dst := some 16) (.int .u64 x112) (fun _ => by kernel_rfl) ?_
 refine WQ.fin (by kernel_rfl) ?_
 intro w116 hc117
 have hz119 := hc117.size
 have hC118 := hC104.pure hc117
 refine go hK106 ?_
 refine CW.seq fun K120 hK120 => ?_
 refine CW.region ?_
 refine WR.batch 4 [(1, .bool a1), (8, pt g2 0), (9, pt g12 0), (13, .int .u8 x36.1), (14, .int .u8 x36.2), (15, .int .u64 x108), (16, .int .u64 x112), (43, .int .u8 x36.1), (44, .bool a1), (45, .int .u64 x108), (46, .int .u64 x112)] (by kernel_rfl) ?_
 obtain ⟨x121, hx122⟩ : ∃ x, alu_Do x36.1 a1 x108 x112 = x := ⟨_, rfl⟩
 have hs124 := letS hx122 hs115
 have hx123 : IU64 x121.1 ∧ II64 x121.2 := by rw [← hx122]; exact alu_Do_ok x36.1 a1 x108 x112 (by omega) (by omega) (by omega) 
 refine WR.call (dst := some 47) (by kernel_rfl) (retE (g := (fun r : (Int × Int) => (.tuple #[.int .u64 r.1, .int .i64 r.2] : Value))) hx122 (alu_Do_any x36.1 a1 x108 x112 w116  (by omega) (by omega) (by omega) )) ?_
 rintro _ w125 hc126 rfl
 have hz128 := hc126.size
 have hC127 := hC118.pure hc126
 refine WR.batch 5 [(1, .bool a1), (8, pt g2 0), (9, pt g12 0), (13, .int .u8 x36.1), (14, .int .u8 x36.2), (15, .int .u64 x108), (16, .int .u64 x112), (17, .int .u64 x121.1), (18, .int .i64 x121.2)] (by kernel_rfl) ?_
 refine WR.fin (by kernel_rfl) ?_
 refine go hK120 ?_
 refine CW.seq fun K129 hK129 => ?_
 refine CW.region ?_
 refine WR.batch 2 [(1, .bool a1), (8, pt g2 0), (9, pt g12 0), (14, .int .u8 x36.2), (15, .int .u64 x108), (16, .int .u64 x112), (17, .int .u64 x121.1), (18, .int .i64 x121.2), (50, .int .u8 x36.1), (51, .bool a1)] (by kernel_rfl) ?_
 have hb130 := (hb107.pure hc117).pure hc126
 refine WR.load (dst := some 52) (t := 25) (o := 0) hb130 (by kernel_rfl) (.agg #[.int .u64 (law11_right a2).Lo, .int .u64 (law11_right a2).Hi]) (by kernel_rfl) ?_
 have hb131 := (hb101.pure hc117).pure hc126
 refine WR.load (dst := some 53) (t := 25) (o := 0) hb131 (by kernel_rfl) (.agg #[.int .u64 x86.Lo, .int .u64 x86.Hi]) (by kernel_rfl) ?_
 obtain ⟨x132, hx133⟩ : ∃ x, span_Do x36.1 a1 (law11_right a2) x86 = x := ⟨_, rfl⟩
 have hs135 := letS hx133 hs124
 have hx134 : IU64 x132.Lo ∧ IU64 x132.Hi := by have : IU64 (law11_right a2).Lo ∧ IU64 (law11_right a2).Hi := law11_right_ok a2 ⟨(by omega), (by omega)⟩ ; rw [← hx133]; exact span_Do_ok x36.1 a1 (law11_right a2) x86 (by omega) ⟨(by omega), (by omega)⟩ ⟨(by omega), (by omega)⟩ 
 refine WR.call (dst := some 54) (by kernel_rfl) (retE (g := TSpan.v) hx133 (span_Do_any x36.1 a1 (law11_right a2) x86 w125  (by omega) ⟨(by omega), (by omega)⟩ ⟨(by omega), (by omega)⟩ )) ?_
 rintro _ w136 hc137 rfl
 have hz139 := hc137.size
 have hC138 := hC127.pure hc137
 refine WR.alloc (dst := some 19) (e := 25) (by kernel_rfl) #[.int .u64 0, .int .u64 0] (by kernel_rfl) ?_
 intro g140 w141 hN142
 have hf144 : w.heap.size ≤ g140 := Nat.le_trans hC138.size hN142.fresh
 have hfr146 := hN142.fresh
 have hc145 := hN142.chg
 have hz148 := hc145.size
 have hC147 := hC138.pure hc145
 have hb143 := hN142.blk
 have hg149 := hb143.lt
 refine WR.store (t := 25) (o := 0) (v := .agg #[.int .u64 x132.Lo, .int .u64 x132.Hi]) hb143 (by kernel_rfl) #[.int .u64 x132.Lo, .int .u64 x132.Hi] (by kernel_rfl) ?_
 intro w150 hb151 hc152
 have hz154 := hc152.size
 have hC153 := hC147.step1 hc152 (by omega)
 refine WR.fin (by kernel_rfl) ?_
 refine go hK129 ?_
 refine CW.seq fun K155 hK155 => ?_
 refine CW.seq fun K156 hK156 => ?_
 refine CW.region ?_
 refine WR.load (dst := some 55) (t := 25) (o := 0) hb151 (by kernel_rfl) (.agg #[.int .u64 x132.Lo, .int .u64 x132.Hi]) (by kernel_rfl) ?_
 obtain ⟨x157, hx158⟩ : ∃ x, span_Right x132 = x := ⟨_, rfl⟩
 have hs159 := letS hx158 hs135
 refine WR.call (dst := some 56) (by kernel_rfl) (retE (g := (fun r : Bool => (.bool r : Value))) hx158 (span_Right_any x132 w150  ⟨(by omega), (by omega)⟩ )) ?_
 rintro _ w160 hc161 rfl
 have hz163 := hc161.size
 have hC162 := hC153.pure hc161
 refine WR.batch 2 [(1, .bool a1), (8, pt g2 0), (9, pt g12 0), (14, .int .u8 x36.2), (15, .int .u64 x108), (16, .int .u64 x112), (17, .int .u64 x121.1), (18, .int .i64 x121.2), (19, pt g140 0), (58, .bool (!x157))] (by kernel_rfl) ?_
 refine WR.mergeW 13 [(1, .bool a1), (8, pt g2 0), (9, pt g12 0), (14, .int .u8 x36.2), (15, .int .u64 x108), (16, .int .u64 x112), (19, pt g140 0), (67, .bool ((!x157) || ((x121.2 == (0 : Int)) && (!(span_Has x132 x121.1)))))] (fun w' => Chg [] w160 w') (fun Q' => ?_) ?_
 ·
  cases hg164 : (!x157)
  ·
   have hk166 := hg164
   replace hg164 : x157 = true := (bNotF hg164)
   intro hM165
   refine WR.batch 3 [(1, .bool a1), (8, pt g2 0), (9, pt g12 0), (14, .int .u8 x36.2), (15, .int .u64 x108), (16, .int .u64 x112), (17, .int .u64 x121.1), (19, pt g140 0), (58, .bool false), (61, .bool (x121.2 == (0 : Int)))] (by kernel_rfl) ?_
   refine WR.mergeW 12 [(1, .bool a1), (8, pt g2 0), (9, pt g12 0), (14, .int .u8 x36.2), (15, .int .u64 x108), (16, .int .u64 x112), (19, pt g140 0), (58, .bool false), (66, .bool ((x121.2 == (0 : Int)) && (!(span_Has x132 x121.1))))] (fun w' => Chg [] w160 w') (fun Q' => ?_) ?_
   ·
    cases hg167 : (x121.2 == (0 : Int))
    ·
     have hk169 := hg167
     replace hg167 : x121.2 ≠ (0 : Int) := (bEqF hg167)
     intro hM168
     refine WR.batch 5 [(1, .bool a1), (8, pt g2 0), (9, pt g12 0), (14, .int .u8 x36.2), (15, .int .u64 x108), (16, .int .u64 x112), (19, pt g140 0), (58, .bool false), (66, .bool false)] (by kernel_rfl) ?_
     exact WR.keep [1, 8, 9, 14, 15, 16, 19, 58, 66] (by kernel_rfl) (hM168 _ (Chg.refl [] w160))
    ·
     have hk170 := hg167
     replace hg167 : x121.2 = (0 : Int) := (bEqT hg167)
     intro hM168
     have hb171 := hb151.pure hc161
     refine WR.load (dst := some 62) (t := 25) (o := 0) hb171 (by kernel_rfl) (.agg #[.int .u64 x132.Lo, .int .u64 x132.Hi]) (by kernel_rfl) ?_
     refine WR.batch 1 [(1, .bool a1), (8, pt g2 0), (9, pt g12 0), (14, .int .u8 x36.2), (15, .int .u64 x108), (16, .int .u64 x112), (19, pt g140 0), (58, .bool false), (61, .bool true), (62, .agg #[.int .u64 x132.Lo, .int .u64 x132.Hi]), (63, .int .u64 x121.1)] (by kernel_rfl) ?_
     refine WR.call (dst := some 64) (by kernel_rfl) (span_Has_any x132 x121.1 w160  ⟨(by omega), (by omega)⟩ (by omega) ) ?_
     rintro _ w172 hc173 rfl
     have hz175 := hc173.size
     have hC174 := hC162.pure hc173
     refine WR.batch 2 [(1, .bool a1), (8, pt g2 0), (9, pt g12 0), (14, .int .u8 x36.2), (15, .int .u64 x108), (16, .int .u64 x112), (19, pt g140 0), (58, .bool false), (66, .bool (!(span_Has x132 x121.1)))] (by kernel_rfl) ?_
     exact WR.keep [1, 8, 9, 14, 15, 16, 19, 58, 66] (by kernel_rfl) (hM168 _ ((Chg.refl [] w160).pure hc173))
   intro w176 hc177
   have hz179 := hc177.size
   have hC178 := hC162.pure hc177
   have hx180 : IU64 (law11_right a2).Lo ∧ IU64 (law11_right a2).Hi := law11_right_ok a2 ⟨(by omega), (by omega)⟩ 
   refine WR.batch 1 [(1, .bool a1), (8, pt g2 0), (9, pt g12 0), (14, .int .u8 x36.2), (15, .int .u64 x108), (16, .int .u64 x112), (19, pt g140 0), (67, .bool ((x121.2 == (0 : Int)) && (!(span_Has x132 x121.1))))] (by kernel_rfl) ?_
   exact WR.keep [1, 8, 9, 14, 15, 16, 19, 67] (by kernel_rfl) (hM165 _ ((Chg.refl [] w160).pure hc177))
  ·
   have hk181 := hg164
   replace hg164 : x157 = false := (bNotT hg164)
   intro hM165
   refine WR.batch 9 [(1, .bool a1), (8, pt g2 0), (9, pt g12 0), (14, .int .u8 x36.2), (15, .int .u64 x108), (16, .int .u64 x112), (19, pt g140 0), (67, .bool true)] (by kernel_rfl) ?_
   exact WR.keep [1, 8, 9, 14, 15, 16, 19, 67] (by kernel_rfl) (hM165 _ (Chg.refl [] w160))
 intro w182 hc183
 have hz185 := hc183.size
 have hC184 := hC162.pure hc183
 have hx186 : IU64 (law11_right a2).Lo ∧ IU64 (law11_right a2).Hi := law11_right_ok a2 ⟨(by omega), (by omega)⟩ 
 refine WR.batch 1 [(1, .bool a1), (8, pt g2 0), (9, pt g12 0), (14, .int .u8 x36.2), (15, .int .u64 x108), (16, .int .u64 x112), (19, pt g140 0), (68, .bool ((!x157) || ((x121.2 == (0 : Int)) && (!(span_Has x132 x121.1)))))] (by kernel_rfl) ?_
 refine WR.mergeW 21 [(1, .bool a1), (8, pt g2 0), (9, pt g12 0), (14, .int .u8 x36.2), (15, .int .u64 x108), (16, .int .u64 x112), (75, .bool (((!x157) || ((x121.2 == (0 : Int)) && (!(span_Has x132 x121.1)))) || (a1 && (decide (x132.Hi > (4294967295 : Int))))))] (fun w' => Chg [] w182 w') (fun Q' => ?_) ?_
 ·
  cases hg187 : ((!x157) || ((x121.2 == (0 : Int)) && (!(span_Has x132 x121.1))))
  ·
   have hk189 := hg187
   replace hg187 : (x157 = true) ∧ ((x121.2 ≠ (0 : Int)) ∨ ((span_Has x132 x121.1) = true)) := ⟨(bNotF (bOrF hg187).1), (orMap (bAndF (bOrF hg187).2) (fun h => (bEqF h)) (fun h => (bNotF h)))⟩
   intro hM188
   refine WR.batch 2 [(1, .bool a1), (8, pt g2 0), (9, pt g12 0), (14, .int .u8 x36.2), (15, .int .u64 x108), (16, .int .u64 x112), (19, pt g140 0), (68, .bool false), (70, .bool a1)] (by kernel_rfl) ?_
   refine WR.mergeW 20 [(1, .bool a1), (8, pt g2 0), (9, pt g12 0), (14, .int .u8 x36.2), (15, .int .u64 x108), (16, .int .u64 x112), (68, .bool false), (74, .bool (a1 && (decide (x132.Hi > (4294967295 : Int)))))] (fun w' => Chg [] w182 w') (fun Q' => ?_) ?_
   ·
    cases hg190 : a1
    ·
     have hk192 := hg190
     intro hM191
     refine WR.batch 4 [(1, .bool false), (8, pt g2 0), (9, pt g12 0), (14, .int .u8 x36.2), (15, .int .u64 x108), (16, .int .u64 x112), (68, .bool false), (74, .bool false)] (by kernel_rfl) ?_
     exact WR.keep [1, 8, 9, 14, 15, 16, 68, 74] (by kernel_rfl) (hM191 _ (Chg.refl [] w182))
    ·
     have hk193 := hg190
     intro hM191
     refine WR.batch 1 [(1, .bool true), (8, pt g2 0), (9, pt g12 0), (14, .int .u8 x36.2), (15, .int .u64 x108), (16, .int .u64 x112), (68, .bool false), (70, .bool true), (71, pt g140 1)] (by kernel_rfl) ?_
     have hb194 := (hb151.pure hc161).pure hc183
     refine WR.load (dst := some 72) (t := 23) (o := 1) hb194 (by kernel_rfl) (.int .u64 x132.Hi) (by kernel_rfl) ?_
     refine WR.batch 2 [(1, .bool true), (8, pt g2 0), (9, pt g12 0), (14, .int .u8 x36.2), (15, .int .u64 x108), (16, .int .u64 x112), (68, .bool false), (74, .bool (decide (x132.Hi > (4294967295 : Int))))] (by kernel_rfl) ?_
     exact WR.keep [1, 8, 9, 14, 15, 16, 68, 74] (by kernel_rfl) (hM191 _ (Chg.refl [] w182))
   intro w195 hc196
   have hz198 := hc196.size
   have hC197 := hC184.pure hc196
   have hx199 : IU64 (law11_right a2).Lo ∧ IU64 (law11_right a2).Hi := law11_right_ok a2 ⟨(by omega), (by omega)⟩ 
   refine WR.batch 1 [(1, .bool a1), (8, pt g2 0), (9, pt g12 0), (14, .int .u8 x36.2), (15, .int .u64 x108), (16, .int .u64 x112), (75, .bool (a1 && (decide (x132.Hi > (4294967295 : Int)))))] (by kernel_rfl) ?_
   exact WR.keep [1, 8, 9, 14, 15, 16, 75] (by kernel_rfl) (hM188 _ ((Chg.refl [] w182).pure hc196))
  ·
   have hk200 := hg187
   replace hg187 : (x157 = false) ∨ ((x121.2 = (0 : Int)) ∧ ((span_Has x132 x121.1) = false)) := (orMap (bOrT hg187) (fun h => (bNotT h)) (fun h => ⟨(bEqT (bAndT h).1), (bNotT (bAndT h).2)⟩))
   intro hM188
   refine WR.batch 7 [(1, .bool a1), (8, pt g2 0), (9, pt g12 0), (14, .int .u8 x36.2), (15, .int .u64 x108), (16, .int .u64 x112), (75, .bool true)] (by kernel_rfl) ?_
   exact WR.keep [1, 8, 9, 14, 15, 16, 75] (by kernel_rfl) (hM188 _ (Chg.refl [] w182))
 intro w201 hc202
 have hz204 := hc202.size
 have hC203 := hC184.pure hc202
 have hx205 : IU64 (law11_right a2).Lo ∧ IU64 (law11_right a2).Hi := law11_right_ok a2 ⟨(by omega), (by omega)⟩ 
 refine WR.fin (by kernel_rfl) ?_
 refine go hK156 ?_
 refine CW.cond ((((!x157) || ((x121.2 == (0 : Int)) && (!(span_Has x132 x121.1)))) || (a1 && (decide (x132.Hi > (4294967295 : Int)))))) (by kernel_rfl) (fun ht206 => ?_) (fun ht206 => ?_)
 ·
  have hs207 := ifT ht206 hs159
  replace ht206 : ((x157 = false) ∨ ((x121.2 = (0 : Int)) ∧ ((span_Has x132 x121.1) = false))) ∨ ((a1 = true) ∧ (x132.Hi > (4294967295 : Int))) := (orMap (bOrT ht206) (fun h => (orMap (bOrT h) (fun h => (bNotT h)) (fun h => ⟨(bEqT (bAndT h).1), (bNotT (bAndT h).2)⟩))) (fun h => ⟨(bAndT h).1, (of_decide_eq_true (bAndT h).2)⟩))
  refine CW.seq fun K208 hK208 => ?_
  refine CW.region ?_
  refine WR.batch 1 [(12, .bool false)] (by kernel_rfl) ?_
  refine WR.fin (by kernel_rfl) ?_
  refine go hK208 ?_
  refine CW.ret ?_
  exact retV (.bool false) (by kernel_rfl) (⟨hC203, (congrArg (fun r : Bool => (.bool r : Value)) hs207).symm⟩)
 have hs209 := ifF ht206 hs159
 replace ht206 : ((x157 = true) ∧ ((x121.2 ≠ (0 : Int)) ∨ ((span_Has x132 x121.1) = true))) ∧ ((a1 = false) ∨ (¬ (x132.Hi > (4294967295 : Int)))) := ⟨⟨(bNotF (bOrF (bOrF ht206).1).1), (orMap (bAndF (bOrF (bOrF ht206).1).2) (fun h => (bEqF h)) (fun h => (bNotF h)))⟩, (orMap (bAndF (bOrF ht206).2) (fun h => h) (fun h => (of_decide_eq_false h)))⟩
 refine CW.skip ?_
 refine go hK155 ?_
 refine CW.seq fun K210 hK210 => ?_
 refine CW.region ?_
 refine WR.batch 4 [(1, .bool a1), (8, pt g2 0), (9, pt g12 0), (14, .int .u8 x36.2), (15, .int .u64 x108), (16, .int .u64 x112), (77, .int .u8 x36.2), (78, .bool a1), (79, .int .u64 x108), (80, .int .u64 x112)] (by kernel_rfl) ?_
 obtain ⟨x211, hx212⟩ : ∃ x, alu_Is x36.2 a1 x108 x112 = x := ⟨_, rfl⟩
 have hs214 := letS hx212 hs209
 have hx213 : II64 x211.2 := by rw [← hx212]; exact alu_Is_ok x36.2 a1 x108 x112 (by omega) (by omega) (by omega) 
 refine WR.call (dst := some 81) (by kernel_rfl) (retE (g := (fun r : (Bool × Int) => (.tuple #[.bool r.1, .int .i64 r.2] : Value))) hx212 (alu_Is_any x36.2 a1 x108 x112 w201  (by omega) (by omega) (by omega) )) ?_
 rintro _ w215 hc216 rfl
 have hz218 := hc216.size
 have hC217 := hC203.pure hc216
 refine WR.batch 5 [(1, .bool a1), (8, pt g2 0), (9, pt g12 0), (14, .int .u8 x36.2), (15, .int .u64 x108), (16, .int .u64 x112), (20, .bool x211.1), (21, .int .i64 x211.2)] (by kernel_rfl) ?_
 refine WR.fin (by kernel_rfl) ?_
 refine go hK210 ?_
 refine CW.seq fun K219 hK219 => ?_
 refine CW.region ?_
 refine WR.batch 3 [(8, pt g2 0), (9, pt g12 0), (15, .int .u64 x108), (16, .int .u64 x112), (21, .int .i64 x211.2), (85, .int .u8 x36.2), (86, .bool a1), (87, .bool x211.1)] (by kernel_rfl) ?_
 have hb220 := ((((((hb130.pure hc137).pure hc145).chg1 hc152 (by omega)).pure hc161).pure hc183).pure hc202).pure hc216
 refine WR.load (dst := some 88) (t := 25) (o := 0) hb220 (by kernel_rfl) (.agg #[.int .u64 (law11_right a2).Lo, .int .u64 (law11_right a2).Hi]) (by kernel_rfl) ?_
 have hb221 := ((((((hb131.pure hc137).pure hc145).chg1 hc152 (by omega)).pure hc161).pure hc183).pure hc202).pure hc216
 refine WR.load (dst := some 89) (t := 25) (o := 0) hb221 (by kernel_rfl) (.agg #[.int .u64 x86.Lo, .int .u64 x86.Hi]) (by kernel_rfl) ?_
 obtain ⟨x222, hx223⟩ : ∃ x, span_If x36.2 a1 x211.1 (law11_right a2) x86 = x := ⟨_, rfl⟩
 have hs225 := letS hx223 hs214
 have hx224 : IU64 x222.1.Lo ∧ IU64 x222.1.Hi ∧ IU64 x222.2.1.Lo ∧ IU64 x222.2.1.Hi := by have : IU64 (law11_right a2).Lo ∧ IU64 (law11_right a2).Hi := law11_right_ok a2 ⟨(by omega), (by omega)⟩ ; rw [← hx223]; exact span_If_ok x36.2 a1 x211.1 (law11_right a2) x86 (by omega) ⟨(by omega), (by omega)⟩ ⟨(by omega), (by omega)⟩ 
 refine WR.call (dst := some 90) (by kernel_rfl) (retE (g := (fun r : (TSpan × TSpan × Bool) => (.tuple #[TSpan.v r.1, TSpan.v r.2.1, .bool r.2.2] : Value))) hx223 (span_If_any x36.2 a1 x211.1 (law11_right a2) x86 w215  (by omega) ⟨(by omega), (by omega)⟩ ⟨(by omega), (by omega)⟩ )) ?_
 rintro _ w226 hc227 rfl
 have hz229 := hc227.size
 have hC228 := hC217.pure hc227
 refine WR.batch 4 [(8, pt g2 0), (9, pt g12 0), (15, .int .u64 x108), (16, .int .u64 x112), (21, .int .i64 x211.2), (91, .agg #[.int .u64 x222.1.Lo, .int .u64 x222.1.Hi]), (92, .agg #[.int .u64 x222.2.1.Lo, .int .u64 x222.2.1.Hi]), (93, .bool x222.2.2)] (by kernel_rfl) ?_
 refine WR.alloc (dst := some 22) (e := 25) (by kernel_rfl) #[.int .u64 0, .int .u64 0] (by kernel_rfl) ?_
 intro g230 w231 hN232
 have hf234 : w.heap.size ≤ g230 := Nat.le_trans hC228.size hN232.fresh
 have hfr236 := hN232.fresh
 have hc235 := hN232.chg
 have hz238 := hc235.size
 have hC237 := hC228.pure hc235
 have hb233 := hN232.blk
 have hg239 := hb233.lt
 refine WR.alloc (dst := some 23) (e := 25) (by kernel_rfl) #[.int .u64 0, .int .u64 0] (by kernel_rfl) ?_
 intro g240 w241 hN242
 have hf244 : w.heap.size ≤ g240 := Nat.le_trans hC237.size hN242.fresh
 have hfr246 := hN242.fresh
 have hc245 := hN242.chg
 have hz248 := hc245.size
 have hC247 := hC237.pure hc245
 have hb243 := hN242.blk
 have hg249 := hb243.lt
 have hb253 := hb233.pure hc245
 refine WR.store (t := 25) (o := 0) (v := .agg #[.int .u64 x222.1.Lo, .int .u64 x222.1.Hi]) hb253 (by kernel_rfl) #[.int .u64 x222.1.Lo, .int .u64 x222.1.Hi] (by kernel_rfl) ?_
 intro w250 hb251 hc252
 have hz255 := hc252.size
 have hC254 := hC247.step1 hc252 (by omega)
 have hb259 := hb243.chg1 hc252 (by omega)
 refine WR.store (t := 25) (o := 0) (v := .agg #[.int .u64 x222.2.1.Lo, .int .u64 x222.2.1.Hi]) hb259 (by kernel_rfl) #[.int .u64 x222.2.1.Lo, .int .u64 x222.2.1.Hi] (by kernel_rfl) ?_
 intro w256 hb257 hc258
 have hz261 := hc258.size
 have hC260 := hC254.step1 hc258 (by omega)
 refine WR.batch 1 [(8, pt g2 0), (9, pt g12 0), (15, .int .u64 x108), (16, .int .u64 x112), (21, .int .i64 x211.2), (22, pt g230 0), (23, pt g240 0), (24, .bool x222.2.2)] (by kernel_rfl) ?_
 refine WR.fin (by kernel_rfl) ?_
 refine go hK219 ?_
 refine CW.seq fun K262 hK262 => ?_
 refine CW.region ?_
 refine WR.batch 3 [(8, pt g2 0), (9, pt g12 0), (15, .int .u64 x108), (16, .int .u64 x112), (22, pt g230 0), (23, pt g240 0), (24, .bool x222.2.2), (96, .bool (x211.2 == (0 : Int)))] (by kernel_rfl) ?_
 refine WR.batch 2 [(8, pt g2 0), (9, pt g12 0), (15, .int .u64 x108), (16, .int .u64 x112), (22, pt g230 0), (23, pt g240 0), (98, .bool ((x211.2 == (0 : Int)) && x222.2.2))] (by generalize (x211.2 == (0 : Int)) = b; cases b <;> kernel_rfl) ?_
 refine WR.batch 1 [(8, pt g2 0), (9, pt g12 0), (15, .int .u64 x108), (16, .int .u64 x112), (22, pt g230 0), (23, pt g240 0), (99, .bool ((x211.2 == (0 : Int)) && x222.2.2))] (by kernel_rfl) ?_
 refine WR.mergeW 9 [(8, pt g2 0), (9, pt g12 0), (15, .int .u64 x108), (16, .int .u64 x112), (22, pt g230 0), (23, pt g240 0), (102, .bool (((x211.2 == (0 : Int)) && x222.2.2) && (span_Right x222.1)))] (fun w' => Chg [] w256 w') (fun Q' => ?_) ?_
 ·
  cases hg263 : ((x211.2 == (0 : Int)) && x222.2.2)
  ·
   have hk265 := hg263
   replace hg263 : (x211.2 ≠ (0 : Int)) ∨ (x222.2.2 = false) := (orMap (bAndF hg263) (fun h => (bEqF h)) (fun h => h))
   intro hM264
   refine WR.batch 3 [(8, pt g2 0), (9, pt g12 0), (15, .int .u64 x108), (16, .int .u64 x112), (22, pt g230 0), (23, pt g240 0), (102, .bool false)] (by kernel_rfl) ?_
   exact WR.keep [8, 9, 15, 16, 22, 23, 102] (by kernel_rfl) (hM264 _ (Chg.refl [] w256))
  ·
   have hk266 := hg263
   replace hg263 : (x211.2 = (0 : Int)) ∧ (x222.2.2 = true) := ⟨(bEqT (bAndT hg263).1), (bAndT hg263).2⟩
   intro hM264
   have hb267 := hb251.chg1 hc258 (by omega)
   refine WR.load (dst := some 100) (t := 25) (o := 0) hb267 (by kernel_rfl) (.agg #[.int .u64 x222.1.Lo, .int .u64 x222.1.Hi]) (by kernel_rfl) ?_
   refine WR.call (dst := some 101) (by kernel_rfl) (span_Right_any x222.1 w256  ⟨(by omega), (by omega)⟩ ) ?_
   rintro _ w268 hc269 rfl
   have hz271 := hc269.size
   have hC270 := hC260.pure hc269
   refine WR.batch 1 [(8, pt g2 0), (9, pt g12 0), (15, .int .u64 x108), (16, .int .u64 x112), (22, pt g230 0), (23, pt g240 0), (102, .bool (span_Right x222.1))] (by kernel_rfl) ?_
   exact WR.keep [8, 9, 15, 16, 22, 23, 102] (by kernel_rfl) (hM264 _ ((Chg.refl [] w256).pure hc269))
 intro w272 hc273
 have hz275 := hc273.size
 have hC274 := hC260.pure hc273
 have hx276 : IU64 (law11_right a2).Lo ∧ IU64 (law11_right a2).Hi := law11_right_ok a2 ⟨(by omega), (by omega)⟩ 
 refine WR.batch 1 [(8, pt g2 0), (9, pt g12 0), (15, .int .u64 x108), (16, .int .u64 x112), (22, pt g230 0), (23, pt g240 0), (103, .bool (((x211.2 == (0 : Int)) && x222.2.2) && (span_Right x222.1)))] (by kernel_rfl) ?_
 refine WR.mergeW 13 [(8, pt g2 0), (9, pt g12 0), (15, .int .u64 x108), (16, .int .u64 x112), (22, pt g230 0), (23, pt g240 0), (106, .bool ((((x211.2 == (0 : Int)) && x222.2.2) && (span_Right x222.1)) && (span_Right x222.2.1)))] (fun w' => Chg [] w272 w') (fun Q' => ?_) ?_
 ·
  cases hg277 : (((x211.2 == (0 : Int)) && x222.2.2) && (span_Right x222.1))
  ·
   have hk279 := hg277
   replace hg277 : ((x211.2 ≠ (0 : Int)) ∨ (x222.2.2 = false)) ∨ ((span_Right x222.1) = false) := (orMap (bAndF hg277) (fun h => (orMap (bAndF h) (fun h => (bEqF h)) (fun h => h))) (fun h => h))
   intro hM278
   refine WR.batch 3 [(8, pt g2 0), (9, pt g12 0), (15, .int .u64 x108), (16, .int .u64 x112), (22, pt g230 0), (23, pt g240 0), (106, .bool false)] (by kernel_rfl) ?_
   exact WR.keep [8, 9, 15, 16, 22, 23, 106] (by kernel_rfl) (hM278 _ (Chg.refl [] w272))
  ·
   have hk280 := hg277
   replace hg277 : ((x211.2 = (0 : Int)) ∧ (x222.2.2 = true)) ∧ ((span_Right x222.1) = true) := ⟨⟨(bEqT (bAndT (bAndT hg277).1).1), (bAndT (bAndT hg277).1).2⟩, (bAndT hg277).2⟩
   intro hM278
   have hb281 := hb257.pure hc273
   refine WR.load (dst := some 104) (t := 25) (o := 0) hb281 (by kernel_rfl) (.agg #[.int .u64 x222.2.1.Lo, .int .u64 x222.2.1.Hi]) (by kernel_rfl) ?_
   refine WR.call (dst := some 105) (by kernel_rfl) (span_Right_any x222.2.1 w272  ⟨(by omega), (by omega)⟩ ) ?_
   rintro _ w282 hc283 rfl
   have hz285 := hc283.size
   have hC284 := hC274.pure hc283
   refine WR.batch 1 [(8, pt g2 0), (9, pt g12 0), (15, .int .u64 x108), (16, .int .u64 x112), (22, pt g230 0), (23, pt g240 0), (106, .bool (span_Right x222.2.1))] (by kernel_rfl) ?_
   exact WR.keep [8, 9, 15, 16, 22, 23, 106] (by kernel_rfl) (hM278 _ ((Chg.refl [] w272).pure hc283))
 intro w286 hc287
 have hz289 := hc287.size
 have hC288 := hC274.pure hc287
 have hx290 : IU64 (law11_right a2).Lo ∧ IU64 (law11_right a2).Hi := law11_right_ok a2 ⟨(by omega), (by omega)⟩ 
 refine WR.batch 1 [(8, pt g2 0), (9, pt g12 0), (15, .int .u64 x108), (16, .int .u64 x112), (22, pt g230 0), (23, pt g240 0), (107, .bool ((((x211.2 == (0 : Int)) && x222.2.2) && (span_Right x222.1)) && (span_Right x222.2.1)))] (by kernel_rfl) ?_
 refine WR.mergeW 18 [(8, pt g2 0), (9, pt g12 0), (16, .int .u64 x112), (22, pt g230 0), (23, pt g240 0), (111, .bool (((((x211.2 == (0 : Int)) && x222.2.2) && (span_Right x222.1)) && (span_Right x222.2.1)) && (span_Has x222.1 x108)))] (fun w' => Chg [] w286 w') (fun Q' => ?_) ?_
 ·
  cases hg291 : ((((x211.2 == (0 : Int)) && x222.2.2) && (span_Right x222.1)) && (span_Right x222.2.1))
  ·
   have hk293 := hg291
   replace hg291 : (((x211.2 ≠ (0 : Int)) ∨ (x222.2.2 = false)) ∨ ((span_Right x222.1) = false)) ∨ ((span_Right x222.2.1) = false) := (orMap (bAndF hg291) (fun h => (orMap (bAndF h) (fun h => (orMap (bAndF h) (fun h => (bEqF h)) (fun h => h))) (fun h => h))) (fun h => h))
   intro hM292
   refine WR.batch 4 [(8, pt g2 0), (9, pt g12 0), (16, .int .u64 x112), (22, pt g230 0), (23, pt g240 0), (111, .bool false)] (by kernel_rfl) ?_
   exact WR.keep [8, 9, 16, 22, 23, 111] (by kernel_rfl) (hM292 _ (Chg.refl [] w286))
  ·
   have hk294 := hg291
   replace hg291 : (((x211.2 = (0 : Int)) ∧ (x222.2.2 = true)) ∧ ((span_Right x222.1) = true)) ∧ ((span_Right x222.2.1) = true) := ⟨⟨⟨(bEqT (bAndT (bAndT (bAndT hg291).1).1).1), (bAndT (bAndT (bAndT hg291).1).1).2⟩, (bAndT (bAndT hg291).1).2⟩, (bAndT hg291).2⟩
   intro hM292
   have hb295 := ((hb251.chg1 hc258 (by omega)).pure hc273).pure hc287
   refine WR.load (dst := some 108) (t := 25) (o := 0) hb295 (by kernel_rfl) (.agg #[.int .u64 x222.1.Lo, .int .u64 x222.1.Hi]) (by kernel_rfl) ?_
   refine WR.batch 1 [(8, pt g2 0), (9, pt g12 0), (16, .int .u64 x112), (22, pt g230 0), (23, pt g240 0), (107, .bool true), (108, .agg #[.int .u64 x222.1.Lo, .int .u64 x222.1.Hi]), (109, .int .u64 x108)] (by kernel_rfl) ?_
   refine WR.call (dst := some 110) (by kernel_rfl) (span_Has_any x222.1 x108 w286  ⟨(by omega), (by omega)⟩ (by omega) ) ?_
   rintro _ w296 hc297 rfl
   have hz299 := hc297.size
   have hC298 := hC288.pure hc297
   refine WR.batch 1 [(8, pt g2 0), (9, pt g12 0), (16, .int .u64 x112), (22, pt g230 0), (23, pt g240 0), (111, .bool (span_Has x222.1 x108))] (by kernel_rfl) ?_
   exact WR.keep [8, 9, 16, 22, 23, 111] (by kernel_rfl) (hM292 _ ((Chg.refl [] w286).pure hc297))
 intro w300 hc301
 have hz303 := hc301.size
 have hC302 := hC288.pure hc301
 have hx304 : IU64 (law11_right a2).Lo ∧ IU64 (law11_right a2).Hi := law11_right_ok a2 ⟨(by omega), (by omega)⟩ 
 refine WR.batch 1 [(8, pt g2 0), (9, pt g12 0), (16, .int .u64 x112), (22, pt g230 0), (23, pt g240 0), (112, .bool (((((x211.2 == (0 : Int)) && x222.2.2) && (span_Right x222.1)) && (span_Right x222.2.1)) && (span_Has x222.1 x108)))] (by kernel_rfl) ?_
 refine WR.mergeW 23 [(8, pt g2 0), (9, pt g12 0), (22, pt g230 0), (23, pt g240 0), (116, .bool ((((((x211.2 == (0 : Int)) && x222.2.2) && (span_Right x222.1)) && (span_Right x222.2.1)) && (span_Has x222.1 x108)) && (span_Has x222.2.1 x112)))] (fun w' => Chg [] w300 w') (fun Q' => ?_) ?_
 ·
  cases hg305 : (((((x211.2 == (0 : Int)) && x222.2.2) && (span_Right x222.1)) && (span_Right x222.2.1)) && (span_Has x222.1 x108))
  ·
   have hk307 := hg305
   replace hg305 : ((((x211.2 ≠ (0 : Int)) ∨ (x222.2.2 = false)) ∨ ((span_Right x222.1) = false)) ∨ ((span_Right x222.2.1) = false)) ∨ ((span_Has x222.1 x108) = false) := (orMap (bAndF hg305) (fun h => (orMap (bAndF h) (fun h => (orMap (bAndF h) (fun h => (orMap (bAndF h) (fun h => (bEqF h)) (fun h => h))) (fun h => h))) (fun h => h))) (fun h => h))
   intro hM306
   refine WR.batch 4 [(8, pt g2 0), (9, pt g12 0), (22, pt g230 0), (23, pt g240 0), (116, .bool false)] (by kernel_rfl) ?_
   exact WR.keep [8, 9, 22, 23, 116] (by kernel_rfl) (hM306 _ (Chg.refl [] w300))
  ·
   have hk308 := hg305
   replace hg305 : ((((x211.2 = (0 : Int)) ∧ (x222.2.2 = true)) ∧ ((span_Right x222.1) = true)) ∧ ((span_Right x222.2.1) = true)) ∧ ((span_Has x222.1 x108) = true) := ⟨⟨⟨⟨(bEqT (bAndT (bAndT (bAndT (bAndT hg305).1).1).1).1), (bAndT (bAndT (bAndT (bAndT hg305).1).1).1).2⟩, (bAndT (bAndT (bAndT hg305).1).1).2⟩, (bAndT (bAndT hg305).1).2⟩, (bAndT hg305).2⟩
   intro hM306
   have hb309 := ((hb257.pure hc273).pure hc287).pure hc301
   refine WR.load (dst := some 113) (t := 25) (o := 0) hb309 (by kernel_rfl) (.agg #[.int .u64 x222.2.1.Lo, .int .u64 x222.2.1.Hi]) (by kernel_rfl) ?_
   refine WR.batch 1 [(8, pt g2 0), (9, pt g12 0), (22, pt g230 0), (23, pt g240 0), (112, .bool true), (113, .agg #[.int .u64 x222.2.1.Lo, .int .u64 x222.2.1.Hi]), (114, .int .u64 x112)] (by kernel_rfl) ?_
   refine WR.call (dst := some 115) (by kernel_rfl) (span_Has_any x222.2.1 x112 w300  ⟨(by omega), (by omega)⟩ (by omega) ) ?_
   rintro _ w310 hc311 rfl
   have hz313 := hc311.size
   have hC312 := hC302.pure hc311
   refine WR.batch 1 [(8, pt g2 0), (9, pt g12 0), (22, pt g230 0), (23, pt g240 0), (116, .bool (span_Has x222.2.1 x112))] (by kernel_rfl) ?_
   exact WR.keep [8, 9, 22, 23, 116] (by kernel_rfl) (hM306 _ ((Chg.refl [] w300).pure hc311))
 intro w314 hc315
 have hz317 := hc315.size
 have hC316 := hC302.pure hc315
 have hx318 : IU64 (law11_right a2).Lo ∧ IU64 (law11_right a2).Hi := law11_right_ok a2 ⟨(by omega), (by omega)⟩ 
 refine WR.batch 1 [(8, pt g2 0), (9, pt g12 0), (22, pt g230 0), (23, pt g240 0), (117, .bool ((((((x211.2 == (0 : Int)) && x222.2.2) && (span_Right x222.1)) && (span_Right x222.2.1)) && (span_Has x222.1 x108)) && (span_Has x222.2.1 x112)))] (by kernel_rfl) ?_
 refine WR.mergeW 28 [(9, pt g12 0), (23, pt g240 0), (121, .bool (((((((x211.2 == (0 : Int)) && x222.2.2) && (span_Right x222.1)) && (span_Right x222.2.1)) && (span_Has x222.1 x108)) && (span_Has x222.2.1 x112)) && (span_Within x222.1 (law11_right a2))))] (fun w' => Chg [] w314 w') (fun Q' => ?_) ?_
 ·
  cases hg319 : ((((((x211.2 == (0 : Int)) && x222.2.2) && (span_Right x222.1)) && (span_Right x222.2.1)) && (span_Has x222.1 x108)) && (span_Has x222.2.1 x112))
  ·
   have hk321 := hg319
   replace hg319 : (((((x211.2 ≠ (0 : Int)) ∨ (x222.2.2 = false)) ∨ ((span_Right x222.1) = false)) ∨ ((span_Right x222.2.1) = false)) ∨ ((span_Has x222.1 x108) = false)) ∨ ((span_Has x222.2.1 x112) = false) := (orMap (bAndF hg319) (fun h => (orMap (bAndF h) (fun h => (orMap (bAndF h) (fun h => (orMap (bAndF h) (fun h => (orMap (bAndF h) (fun h => (bEqF h)) (fun h => h))) (fun h => h))) (fun h => h))) (fun h => h))) (fun h => h))
   intro hM320
   refine WR.batch 4 [(9, pt g12 0), (23, pt g240 0), (121, .bool false)] (by kernel_rfl) ?_
   exact WR.keep [9, 23, 121] (by kernel_rfl) (hM320 _ (Chg.refl [] w314))
  ·
   have hk322 := hg319
   replace hg319 : (((((x211.2 = (0 : Int)) ∧ (x222.2.2 = true)) ∧ ((span_Right x222.1) = true)) ∧ ((span_Right x222.2.1) = true)) ∧ ((span_Has x222.1 x108) = true)) ∧ ((span_Has x222.2.1 x112) = true) := ⟨⟨⟨⟨⟨(bEqT (bAndT (bAndT (bAndT (bAndT (bAndT hg319).1).1).1).1).1), (bAndT (bAndT (bAndT (bAndT (bAndT hg319).1).1).1).1).2⟩, (bAndT (bAndT (bAndT (bAndT hg319).1).1).1).2⟩, (bAndT (bAndT (bAndT hg319).1).1).2⟩, (bAndT (bAndT hg319).1).2⟩, (bAndT hg319).2⟩
   intro hM320
   have hb323 := ((((hb251.chg1 hc258 (by omega)).pure hc273).pure hc287).pure hc301).pure hc315
   refine WR.load (dst := some 118) (t := 25) (o := 0) hb323 (by kernel_rfl) (.agg #[.int .u64 x222.1.Lo, .int .u64 x222.1.Hi]) (by kernel_rfl) ?_
   have hb324 := ((((((((hb220.pure hc227).pure hc235).pure hc245).chg1 hc252 (by omega)).chg1 hc258 (by omega)).pure hc273).pure hc287).pure hc301).pure hc315
   refine WR.load (dst := some 119) (t := 25) (o := 0) hb324 (by kernel_rfl) (.agg #[.int .u64 (law11_right a2).Lo, .int .u64 (law11_right a2).Hi]) (by kernel_rfl) ?_
   refine WR.call (dst := some 120) (by kernel_rfl) (span_Within_any x222.1 (law11_right a2) w314  ⟨(by omega), (by omega)⟩ ⟨(by omega), (by omega)⟩ ) ?_
   rintro _ w325 hc326 rfl
   have hz328 := hc326.size
   have hC327 := hC316.pure hc326
   refine WR.batch 1 [(9, pt g12 0), (23, pt g240 0), (121, .bool (span_Within x222.1 (law11_right a2)))] (by kernel_rfl) ?_
   exact WR.keep [9, 23, 121] (by kernel_rfl) (hM320 _ ((Chg.refl [] w314).pure hc326))
 intro w329 hc330
 have hz332 := hc330.size
 have hC331 := hC316.pure hc330
 have hx333 : IU64 (law11_right a2).Lo ∧ IU64 (law11_right a2).Hi := law11_right_ok a2 ⟨(by omega), (by omega)⟩ 
 refine WR.batch 1 [(9, pt g12 0), (23, pt g240 0), (122, .bool (((((((x211.2 == (0 : Int)) && x222.2.2) && (span_Right x222.1)) && (span_Right x222.2.1)) && (span_Has x222.1 x108)) && (span_Has x222.2.1 x112)) && (span_Within x222.1 (law11_right a2))))] (by kernel_rfl) ?_
 refine WR.mergeW 33 [(126, .bool ((((((((x211.2 == (0 : Int)) && x222.2.2) && (span_Right x222.1)) && (span_Right x222.2.1)) && (span_Has x222.1 x108)) && (span_Has x222.2.1 x112)) && (span_Within x222.1 (law11_right a2))) && (span_Within x222.2.1 x86)))] (fun w' => Chg [] w329 w') (fun Q' => ?_) ?_
 ·
  cases hg334 : (((((((x211.2 == (0 : Int)) && x222.2.2) && (span_Right x222.1)) && (span_Right x222.2.1)) && (span_Has x222.1 x108)) && (span_Has x222.2.1 x112)) && (span_Within x222.1 (law11_right a2)))
  ·
   have hk336 := hg334
   replace hg334 : ((((((x211.2 ≠ (0 : Int)) ∨ (x222.2.2 = false)) ∨ ((span_Right x222.1) = false)) ∨ ((span_Right x222.2.1) = false)) ∨ ((span_Has x222.1 x108) = false)) ∨ ((span_Has x222.2.1 x112) = false)) ∨ ((span_Within x222.1 (law11_right a2)) = false) := (orMap (bAndF hg334) (fun h => (orMap (bAndF h) (fun h => (orMap (bAndF h) (fun h => (orMap (bAndF h) (fun h => (orMap (bAndF h) (fun h => (orMap (bAndF h) (fun h => (bEqF h)) (fun h => h))) (fun h => h))) (fun h => h))) (fun h => h))) (fun h => h))) (fun h => h))
   intro hM335
   refine WR.batch 4 [(126, .bool false)] (by kernel_rfl) ?_
   exact WR.keep [126] (by kernel_rfl) (hM335 _ (Chg.refl [] w329))
  ·
   have hk337 := hg334
   replace hg334 : ((((((x211.2 = (0 : Int)) ∧ (x222.2.2 = true)) ∧ ((span_Right x222.1) = true)) ∧ ((span_Right x222.2.1) = true)) ∧ ((span_Has x222.1 x108) = true)) ∧ ((span_Has x222.2.1 x112) = true)) ∧ ((span_Within x222.1 (law11_right a2)) = true) := ⟨⟨⟨⟨⟨⟨(bEqT (bAndT (bAndT (bAndT (bAndT (bAndT (bAndT hg334).1).1).1).1).1).1), (bAndT (bAndT (bAndT (bAndT (bAndT (bAndT hg334).1).1).1).1).1).2⟩, (bAndT (bAndT (bAndT (bAndT (bAndT hg334).1).1).1).1).2⟩, (bAndT (bAndT (bAndT (bAndT hg334).1).1).1).2⟩, (bAndT (bAndT (bAndT hg334).1).1).2⟩, (bAndT (bAndT hg334).1).2⟩, (bAndT hg334).2⟩
   intro hM335
   have hb338 := ((((hb257.pure hc273).pure hc287).pure hc301).pure hc315).pure hc330
   refine WR.load (dst := some 123) (t := 25) (o := 0) hb338 (by kernel_rfl) (.agg #[.int .u64 x222.2.1.Lo, .int .u64 x222.2.1.Hi]) (by kernel_rfl) ?_
   have hb339 := (((((((((hb221.pure hc227).pure hc235).pure hc245).chg1 hc252 (by omega)).chg1 hc258 (by omega)).pure hc273).pure hc287).pure hc301).pure hc315).pure hc330
   refine WR.load (dst := some 124) (t := 25) (o := 0) hb339 (by kernel_rfl) (.agg #[.int .u64 x86.Lo, .int .u64 x86.Hi]) (by kernel_rfl) ?_
   refine WR.call (dst := some 125) (by kernel_rfl) (span_Within_any x222.2.1 x86 w329  ⟨(by omega), (by omega)⟩ ⟨(by omega), (by omega)⟩ ) ?_
   rintro _ w340 hc341 rfl
   have hz343 := hc341.size
   have hC342 := hC331.pure hc341
   refine WR.batch 1 [(126, .bool (span_Within x222.2.1 x86))] (by kernel_rfl) ?_
   exact WR.keep [126] (by kernel_rfl) (hM335 _ ((Chg.refl [] w329).pure hc341))
 intro w344 hc345
 have hz347 := hc345.size
 have hC346 := hC331.pure hc345
 have hx348 : IU64 (law11_right a2).Lo ∧ IU64 (law11_right a2).Hi := law11_right_ok a2 ⟨(by omega), (by omega)⟩ 
 refine WR.batch 1 [(12, .bool ((((((((x211.2 == (0 : Int)) && x222.2.2) && (span_Right x222.1)) && (span_Right x222.2.1)) && (span_Has x222.1 x108)) && (span_Has x222.2.1 x112)) && (span_Within x222.1 (law11_right a2))) && (span_Within x222.2.1 x86)))] (by kernel_rfl) ?_
 refine WR.fin (by kernel_rfl) ?_
 refine go hK262 ?_
 refine CW.ret ?_
 exact retV (.bool ((((((((x211.2 == (0 : Int)) && x222.2.2) && (span_Right x222.1)) && (span_Right x222.2.1)) && (span_Has x222.1 x108)) && (span_Has x222.2.1 x112)) && (span_Within x222.1 (law11_right a2))) && (span_Within x222.2.1 x86))) (by kernel_rfl) (⟨hC346, (congrArg (fun r : Bool => (.bool r : Value)) hs225).symm⟩)
end Go.V
