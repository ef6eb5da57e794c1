import Derived.Test.YtjiagljaipadmaaProg
import Derived.Test.YtjiagljaipadmaaKa
namespace Go.V
open Go.RowKit Go.Proofs
def law12_known (a0 : Int) (a1 : Int) (a2 : Int)  : TKnown := (⟨a0, (⟨a1, a2⟩ : TSpan)⟩ : TKnown)

theorem law12_known_ok (a0 : Int) (a1 : Int) (a2 : Int)  (_h_a0 : IU8 a0) (_h_a1 : IU64 a1) (_h_a2 : IU64 a2)  : IU8 (law12_known a0 a1 a2).Kind ∧ IU64 (law12_known a0 a1 a2).In.Lo ∧ IU64 (law12_known a0 a1 a2).In.Hi := by
 rw [law12_known.eq_1]
 exact (by exact (show IU8 a0 ∧ IU64 a1 ∧ IU64 a2 from ⟨(by omega), (by omega), (by omega)⟩))

theorem law12_known_any (a0 : Int) (a1 : Int) (a2 : Int)   (w : World)  (_h_a0 : IU8 a0) (_h_a1 : IU64 a1) (_h_a2 : IU64 a2)  : Calls Try.prog 63 #[.int .u8 a0, .int .u64 a1, .int .u64 a2] w (RetV w (TKnown.v (law12_known a0 a1 a2))) := by
 have hs := law12_known.eq_1 a0 a1 a2
 refine calls_of_CW Try.func63 rfl (n := 12) Try.ntmps63 (by kernel_rfl) [0, 1, 2] (F := [(0, .int .u8 a0), (1, .int .u64 a1), (2, .int .u64 a2)]) (by kernel_rfl) ?_
 refine CW.seq fun K1 hK1 => ?_
 refine CW.region ?_
 refine WR.alloc (dst := some 6) (e := 56) (by kernel_rfl) #[.int .u8 0, .int .u64 0, .int .u64 0] (by kernel_rfl) ?_
 intro g2 w3 hN4
 have hf6 : w.heap.size ≤ g2 := hN4.fresh
 have hfr8 := hN4.fresh
 have hc7 := hN4.chg
 have hz10 := hc7.size
 have hC9 := (Chg.refl [] w).pure hc7
 have hb5 := hN4.blk
 have hg11 := hb5.lt
 refine WR.fin (by kernel_rfl) ?_
 refine go hK1 ?_
 refine CW.seq fun K12 hK12 => ?_
 refine CW.region ?_
 refine WR.batch 5 [(6, pt g2 0), (11, .agg #[.int .u8 a0, .int .u64 a1, .int .u64 a2])] (by kernel_rfl) ?_
 refine WR.store (t := 56) (o := 0) (v := .agg #[.int .u8 a0, .int .u64 a1, .int .u64 a2]) hb5 (by kernel_rfl) #[.int .u8 a0, .int .u64 a1, .int .u64 a2] (by kernel_rfl) ?_
 intro w13 hb14 hc15
 have hz17 := hc15.size
 have hC16 := hC9.step1 hc15 (by omega)
 refine WR.fin (by kernel_rfl) ?_
 refine go hK12 ?_
 refine CW.ret ?_
 exact retC [.agg #[.int .u8 a0, .int .u64 a1, .int .u64 a2]] _ rfl ⟨resCell hb14 rfl (by kernel_rfl), trivial⟩ (⟨hC16, (congrArg TKnown.v hs).symm⟩)

def law12_awake   : Bool := (letF (law12_known (2 : Int) (0 : Int) (0 : Int)) fun x3 => (letF (law12_known (1 : Int) (4 : Int) (8 : Int)) fun x11 => (letF (kind_Do (1 : Int) false x3 x11) fun x19 => (letF (law12_known (1 : Int) (9 : Int) (9 : Int)) fun x43 => (letF (law12_known (1 : Int) (0 : Int) (3 : Int)) fun x51 => (letF (kind_Do (4 : Int) false x43 x51) fun x59 => (letF (law12_known (4 : Int) (0 : Int) (0 : Int)) fun x83 => (letF (law12_known (1 : Int) (3 : Int) (70000 : Int)) fun x91 => (letF (kind_Join x83 x91) fun x99 => (((((x19.2 == (0 : Int)) && ((x19.1.Kind == (law12_known (2 : Int) (4 : Int) (8 : Int)).Kind) && ((x19.1.In.Lo == (law12_known (2 : Int) (4 : Int) (8 : Int)).In.Lo) && (x19.1.In.Hi == (law12_known (2 : Int) (4 : Int) (8 : Int)).In.Hi)))) && (x59.2 == (113 : Int))) && ((x99.Kind == (law12_known (1 : Int) (0 : Int) (70000 : Int)).Kind) && ((x99.In.Lo == (law12_known (1 : Int) (0 : Int) (70000 : Int)).In.Lo) && (x99.In.Hi == (law12_known (1 : Int) (0 : Int) (70000 : Int)).In.Hi)))) && (kind_Within (law12_known (4 : Int) (0 : Int) (0 : Int)) (law12_known (1 : Int) (0 : Int) (65535 : Int)))))))))))))

set_option maxRecDepth 100000 in
set_option maxHeartbeats 4000000 in
theorem law12_awake_any    (w : World)    : Calls Try.prog 37 #[] w (RetV w (.bool law12_awake)) := by
 have hs := law12_awake.eq_1 
 refine calls_of_CW Try.func37 rfl (n := 42) Try.ntmps37 (by kernel_rfl) [] (F := []) (by kernel_rfl) ?_
 refine CW.seq fun K1 hK1 => ?_
 refine CW.region ?_
 refine WR.batch 1 [] (by kernel_rfl) ?_
 refine WR.fin (by kernel_rfl) ?_
 refine go hK1 ?_
 refine CW.seq fun K2 hK2 => ?_
 refine CW.region ?_
 obtain ⟨x3, hx4⟩ : ∃ x, law12_known (2 : Int) (0 : Int) (0 : Int) = x := ⟨_, rfl⟩
 have hs6 := letS hx4 hs
 have hx5 : IU8 x3.Kind ∧ IU64 x3.In.Lo ∧ IU64 x3.In.Hi := by rw [← hx4]; exact law12_known_ok (2 : Int) (0 : Int) (0 : Int) (by omega) (by omega) (by omega) 
 refine WR.call (dst := some 7) (by kernel_rfl) (retE (g := TKnown.v) hx4 (law12_known_any (2 : Int) (0 : Int) (0 : Int) w  (by omega) (by omega) (by omega) )) ?_
 rintro _ w7 hc8 rfl
 have hz10 := hc8.size
 have hC9 := (Chg.refl [] w).pure hc8
 obtain ⟨x11, hx12⟩ : ∃ x, law12_known (1 : Int) (4 : Int) (8 : Int) = x := ⟨_, rfl⟩
 have hs14 := letS hx12 hs6
 have hx13 : IU8 x11.Kind ∧ IU64 x11.In.Lo ∧ IU64 x11.In.Hi := by rw [← hx12]; exact law12_known_ok (1 : Int) (4 : Int) (8 : Int) (by omega) (by omega) (by omega) 
 refine WR.call (dst := some 8) (by kernel_rfl) (retE (g := TKnown.v) hx12 (law12_known_any (1 : Int) (4 : Int) (8 : Int) w7  (by omega) (by omega) (by omega) )) ?_
 rintro _ w15 hc16 rfl
 have hz18 := hc16.size
 have hC17 := hC9.pure hc16
 obtain ⟨x19, hx20⟩ : ∃ x, kind_Do (1 : Int) false x3 x11 = x := ⟨_, rfl⟩
 have hs22 := letS hx20 hs14
 have hx21 : IU8 x19.1.Kind ∧ IU64 x19.1.In.Lo ∧ IU64 x19.1.In.Hi ∧ II64 x19.2 := by rw [← hx20]; exact kind_Do_ok (1 : Int) false x3 x11 (by omega) ⟨(by omega), (by omega), (by omega)⟩ ⟨(by omega), (by omega), (by omega)⟩ 
 refine WR.call (dst := some 9) (by kernel_rfl) (retE (g := (fun r : (TKnown × Int) => (.tuple #[TKnown.v r.1, .int .i64 r.2] : Value))) hx20 (kind_Do_any (1 : Int) false x3 x11 w15  (by omega) ⟨(by omega), (by omega), (by omega)⟩ ⟨(by omega), (by omega), (by omega)⟩ )) ?_
 rintro _ w23 hc24 rfl
 have hz26 := hc24.size
 have hC25 := hC17.pure hc24
 refine WR.batch 3 [(10, .agg #[.int .u8 x19.1.Kind, .int .u64 x19.1.In.Lo, .int .u64 x19.1.In.Hi]), (11, .int .i64 x19.2)] (by kernel_rfl) ?_
 refine WR.alloc (dst := some 1) (e := 56) (by kernel_rfl) #[.int .u8 0, .int .u64 0, .int .u64 0] (by kernel_rfl) ?_
 intro g27 w28 hN29
 have hf31 : w.heap.size ≤ g27 := Nat.le_trans hC25.size hN29.fresh
 have hfr33 := hN29.fresh
 have hc32 := hN29.chg
 have hz35 := hc32.size
 have hC34 := hC25.pure hc32
 have hb30 := hN29.blk
 have hg36 := hb30.lt
 refine WR.store (t := 56) (o := 0) (v := .agg #[.int .u8 x19.1.Kind, .int .u64 x19.1.In.Lo, .int .u64 x19.1.In.Hi]) hb30 (by kernel_rfl) #[.int .u8 x19.1.Kind, .int .u64 x19.1.In.Lo, .int .u64 x19.1.In.Hi] (by kernel_rfl) ?_
 intro w37 hb38 hc39
 have hz41 := hc39.size
 have hC40 := hC34.step1 hc39 (by omega)
 refine WR.batch 1 [(1, pt g27 0), (2, .int .i64 x19.2)] (by kernel_rfl) ?_
 refine WR.fin (by kernel_rfl) ?_
 refine go hK2 ?_
 refine CW.seq fun K42 hK42 => ?_
 refine CW.region ?_
 obtain ⟨x43, hx44⟩ : ∃ x, law12_known (1 : Int) (9 : Int) (9 : Int) = x := ⟨_, rfl⟩
 have hs46 := letS hx44 hs22
 have hx45 : IU8 x43.Kind ∧ IU64 x43.In.Lo ∧ IU64 x43.In.Hi := by rw [← hx44]; exact law12_known_ok (1 : Int) (9 : Int) (9 : Int) (by omega) (by omega) (by omega) 
 refine WR.call (dst := some 13) (by kernel_rfl) (retE (g := TKnown.v) hx44 (law12_known_any (1 : Int) (9 : Int) (9 : Int) w37  (by omega) (by omega) (by omega) )) ?_
 rintro _ w47 hc48 rfl
 have hz50 := hc48.size
 have hC49 := hC40.pure hc48
 obtain ⟨x51, hx52⟩ : ∃ x, law12_known (1 : Int) (0 : Int) (3 : Int) = x := ⟨_, rfl⟩
 have hs54 := letS hx52 hs46
 have hx53 : IU8 x51.Kind ∧ IU64 x51.In.Lo ∧ IU64 x51.In.Hi := by rw [← hx52]; exact law12_known_ok (1 : Int) (0 : Int) (3 : Int) (by omega) (by omega) (by omega) 
 refine WR.call (dst := some 14) (by kernel_rfl) (retE (g := TKnown.v) hx52 (law12_known_any (1 : Int) (0 : Int) (3 : Int) w47  (by omega) (by omega) (by omega) )) ?_
 rintro _ w55 hc56 rfl
 have hz58 := hc56.size
 have hC57 := hC49.pure hc56
 obtain ⟨x59, hx60⟩ : ∃ x, kind_Do (4 : Int) false x43 x51 = x := ⟨_, rfl⟩
 have hs62 := letS hx60 hs54
 have hx61 : IU8 x59.1.Kind ∧ IU64 x59.1.In.Lo ∧ IU64 x59.1.In.Hi ∧ II64 x59.2 := by rw [← hx60]; exact kind_Do_ok (4 : Int) false x43 x51 (by omega) ⟨(by omega), (by omega), (by omega)⟩ ⟨(by omega), (by omega), (by omega)⟩ 
 refine WR.call (dst := some 15) (by kernel_rfl) (retE (g := (fun r : (TKnown × Int) => (.tuple #[TKnown.v r.1, .int .i64 r.2] : Value))) hx60 (kind_Do_any (4 : Int) false x43 x51 w55  (by omega) ⟨(by omega), (by omega), (by omega)⟩ ⟨(by omega), (by omega), (by omega)⟩ )) ?_
 rintro _ w63 hc64 rfl
 have hz66 := hc64.size
 have hC65 := hC57.pure hc64
 refine WR.batch 3 [(1, pt g27 0), (2, .int .i64 x19.2), (16, .agg #[.int .u8 x59.1.Kind, .int .u64 x59.1.In.Lo, .int .u64 x59.1.In.Hi]), (17, .int .i64 x59.2)] (by kernel_rfl) ?_
 refine WR.alloc (dst := some 3) (e := 56) (by kernel_rfl) #[.int .u8 0, .int .u64 0, .int .u64 0] (by kernel_rfl) ?_
 intro g67 w68 hN69
 have hf71 : w.heap.size ≤ g67 := Nat.le_trans hC65.size hN69.fresh
 have hfr73 := hN69.fresh
 have hc72 := hN69.chg
 have hz75 := hc72.size
 have hC74 := hC65.pure hc72
 have hb70 := hN69.blk
 have hg76 := hb70.lt
 refine WR.store (t := 56) (o := 0) (v := .agg #[.int .u8 x59.1.Kind, .int .u64 x59.1.In.Lo, .int .u64 x59.1.In.Hi]) hb70 (by kernel_rfl) #[.int .u8 x59.1.Kind, .int .u64 x59.1.In.Lo, .int .u64 x59.1.In.Hi] (by kernel_rfl) ?_
 intro w77 hb78 hc79
 have hz81 := hc79.size
 have hC80 := hC74.step1 hc79 (by omega)
 refine WR.batch 1 [(1, pt g27 0), (2, .int .i64 x19.2), (4, .int .i64 x59.2)] (by kernel_rfl) ?_
 refine WR.fin (by kernel_rfl) ?_
 refine go hK42 ?_
 refine CW.seq fun K82 hK82 => ?_
 refine CW.region ?_
 obtain ⟨x83, hx84⟩ : ∃ x, law12_known (4 : Int) (0 : Int) (0 : Int) = x := ⟨_, rfl⟩
 have hs86 := letS hx84 hs62
 have hx85 : IU8 x83.Kind ∧ IU64 x83.In.Lo ∧ IU64 x83.In.Hi := by rw [← hx84]; exact law12_known_ok (4 : Int) (0 : Int) (0 : Int) (by omega) (by omega) (by omega) 
 refine WR.call (dst := some 18) (by kernel_rfl) (retE (g := TKnown.v) hx84 (law12_known_any (4 : Int) (0 : Int) (0 : Int) w77  (by omega) (by omega) (by omega) )) ?_
 rintro _ w87 hc88 rfl
 have hz90 := hc88.size
 have hC89 := hC80.pure hc88
 obtain ⟨x91, hx92⟩ : ∃ x, law12_known (1 : Int) (3 : Int) (70000 : Int) = x := ⟨_, rfl⟩
 have hs94 := letS hx92 hs86
 have hx93 : IU8 x91.Kind ∧ IU64 x91.In.Lo ∧ IU64 x91.In.Hi := by rw [← hx92]; exact law12_known_ok (1 : Int) (3 : Int) (70000 : Int) (by omega) (by omega) (by omega) 
 refine WR.call (dst := some 19) (by kernel_rfl) (retE (g := TKnown.v) hx92 (law12_known_any (1 : Int) (3 : Int) (70000 : Int) w87  (by omega) (by omega) (by omega) )) ?_
 rintro _ w95 hc96 rfl
 have hz98 := hc96.size
 have hC97 := hC89.pure hc96
 obtain ⟨x99, hx100⟩ : ∃ x, kind_Join x83 x91 = x := ⟨_, rfl⟩
 have hs102 := letS hx100 hs94
 have hx101 : IU8 x99.Kind ∧ IU64 x99.In.Lo ∧ IU64 x99.In.Hi := by rw [← hx100]; exact kind_Join_ok x83 x91 ⟨(by omega), (by omega), (by omega)⟩ ⟨(by omega), (by omega), (by omega)⟩ 
 refine WR.call (dst := some 20) (by kernel_rfl) (retE (g := TKnown.v) hx100 (kind_Join_any x83 x91 w95  ⟨(by omega), (by omega), (by omega)⟩ ⟨(by omega), (by omega), (by omega)⟩ )) ?_
 rintro _ w103 hc104 rfl
 have hz106 := hc104.size
 have hC105 := hC97.pure hc104
 refine WR.alloc (dst := some 5) (e := 56) (by kernel_rfl) #[.int .u8 0, .int .u64 0, .int .u64 0] (by kernel_rfl) ?_
 intro g107 w108 hN109
 have hf111 : w.heap.size ≤ g107 := Nat.le_trans hC105.size hN109.fresh
 have hfr113 := hN109.fresh
 have hc112 := hN109.chg
 have hz115 := hc112.size
 have hC114 := hC105.pure hc112
 have hb110 := hN109.blk
 have hg116 := hb110.lt
 refine WR.store (t := 56) (o := 0) (v := .agg #[.int .u8 x99.Kind, .int .u64 x99.In.Lo, .int .u64 x99.In.Hi]) hb110 (by kernel_rfl) #[.int .u8 x99.Kind, .int .u64 x99.In.Lo, .int .u64 x99.In.Hi] (by kernel_rfl) ?_
 intro w117 hb118 hc119
 have hz121 := hc119.size
 have hC120 := hC114.step1 hc119 (by omega)
 refine WR.fin (by kernel_rfl) ?_
 refine go hK82 ?_
 refine CW.seq fun K122 hK122 => ?_
 refine CW.regionQ (by kernel_rfl) (by kernel_rfl) ?_
 refine WQ.val (dst := some 21) (.int .i64 x19.2) (fun _ => by kernel_rfl) ?_
 refine WQ.val (dst := some 22) (.bool (x19.2 == (0 : Int))) (fun _ => by kernel_rfl) ?_
 refine WQ.val (dst := some 23) (.bool (x19.2 == (0 : Int))) (fun _ => by kernel_rfl) ?_
 refine WQ.merge 7 [(4, .int .i64 x59.2), (5, pt g107 0), (27, .bool ((x19.2 == (0 : Int)) && ((x19.1.Kind == (law12_known (2 : Int) (4 : Int) (8 : Int)).Kind) && ((x19.1.In.Lo == (law12_known (2 : Int) (4 : Int) (8 : Int)).In.Lo) && (x19.1.In.Hi == (law12_known (2 : Int) (4 : Int) (8 : Int)).In.Hi)))))] (fun Q' => ?_) ?_
 ·
  cases hg123 : (x19.2 == (0 : Int))
  ·
   have hk125 := hg123
   replace hg123 : x19.2 ≠ (0 : Int) := (bEqF hg123)
   intro hM124
   refine WQ.pass1 (dst := some 24) (by kernel_rfl) ?_
   refine WQ.pass1 (dst := some 25) (by kernel_rfl) ?_
   refine WQ.pass1 (dst := some 26) (by kernel_rfl) ?_
   refine WQ.val (dst := some 27) (.bool false) (fun _ => by kernel_rfl) ?_
   exact WQ.keep [4, 5, 27] (by kernel_rfl) hM124
  ·
   have hk126 := hg123
   replace hg123 : x19.2 = (0 : Int) := (bEqT hg123)
   intro hM124
   have hb127 := (((((((((hb38.pure hc48).pure hc56).pure hc64).pure hc72).chg1 hc79 (by omega)).pure hc88).pure hc96).pure hc104).pure hc112).chg1 hc119 (by omega)
   refine WQ.load (dst := some 24) (t := 56) (o := 0) (fun _ hq => hb127.pure hq) (by kernel_rfl) (.agg #[.int .u8 x19.1.Kind, .int .u64 x19.1.In.Lo, .int .u64 x19.1.In.Hi]) (by kernel_rfl) ?_
   have hx128 : IU8 (law12_known (2 : Int) (4 : Int) (8 : Int)).Kind ∧ IU64 (law12_known (2 : Int) (4 : Int) (8 : Int)).In.Lo ∧ IU64 (law12_known (2 : Int) (4 : Int) (8 : Int)).In.Hi := law12_known_ok (2 : Int) (4 : Int) (8 : Int) (by omega) (by omega) (by omega) 
   refine WQ.call (dst := some 25) (.agg #[.int .u8 (law12_known (2 : Int) (4 : Int) (8 : Int)).Kind, .int .u64 (law12_known (2 : Int) (4 : Int) (8 : Int)).In.Lo, .int .u64 (law12_known (2 : Int) (4 : Int) (8 : Int)).In.Hi]) (fun _ => by kernel_rfl) (fun _ _ h h' => h.pure h') (fun wq hq => law12_known_any (2 : Int) (4 : Int) (8 : Int) wq  (by omega) (by omega) (by omega) ) ?_
   refine WQ.val (dst := some 26) (.bool ((x19.1.Kind == (law12_known (2 : Int) (4 : Int) (8 : Int)).Kind) && ((x19.1.In.Lo == (law12_known (2 : Int) (4 : Int) (8 : Int)).In.Lo) && (x19.1.In.Hi == (law12_known (2 : Int) (4 : Int) (8 : Int)).In.Hi)))) (run_eqS (t := 56) (xs := #[.int .u8 x19.1.Kind, .int .u64 x19.1.In.Lo, .int .u64 x19.1.In.Hi]) (ys := #[.int .u8 (law12_known (2 : Int) (4 : Int) (8 : Int)).Kind, .int .u64 (law12_known (2 : Int) (4 : Int) (8 : Int)).In.Lo, .int .u64 (law12_known (2 : Int) (4 : Int) (8 : Int)).In.Hi]) (neg := false) (b := ((x19.1.Kind == (law12_known (2 : Int) (4 : Int) (8 : Int)).Kind) && ((x19.1.In.Lo == (law12_known (2 : Int) (4 : Int) (8 : Int)).In.Lo) && (x19.1.In.Hi == (law12_known (2 : Int) (4 : Int) (8 : Int)).In.Hi)))) (by kernel_rfl) (by kernel_rfl) (by kernel_rfl)) ?_
   refine WQ.val (dst := some 27) (.bool ((x19.1.Kind == (law12_known (2 : Int) (4 : Int) (8 : Int)).Kind) && ((x19.1.In.Lo == (law12_known (2 : Int) (4 : Int) (8 : Int)).In.Lo) && (x19.1.In.Hi == (law12_known (2 : Int) (4 : Int) (8 : Int)).In.Hi)))) (fun _ => by kernel_rfl) ?_
   exact WQ.keep [4, 5, 27] (by kernel_rfl) hM124
 have hx129 : IU8 (law12_known (2 : Int) (4 : Int) (8 : Int)).Kind ∧ IU64 (law12_known (2 : Int) (4 : Int) (8 : Int)).In.Lo ∧ IU64 (law12_known (2 : Int) (4 : Int) (8 : Int)).In.Hi := law12_known_ok (2 : Int) (4 : Int) (8 : Int) (by omega) (by omega) (by omega) 
 have hx130 : IU8 (law12_known (1 : Int) (0 : Int) (70000 : Int)).Kind ∧ IU64 (law12_known (1 : Int) (0 : Int) (70000 : Int)).In.Lo ∧ IU64 (law12_known (1 : Int) (0 : Int) (70000 : Int)).In.Hi := law12_known_ok (1 : Int) (0 : Int) (70000 : Int) (by omega) (by omega) (by omega) 
 have hx131 : IU8 (law12_known (4 : Int) (0 : Int) (0 : Int)).Kind ∧ IU64 (law12_known (4 : Int) (0 : Int) (0 : Int)).In.Lo ∧ IU64 (law12_known (4 : Int) (0 : Int) (0 : Int)).In.Hi := law12_known_ok (4 : Int) (0 : Int) (0 : Int) (by omega) (by omega) (by omega) 
 have hx132 : IU8 (law12_known (1 : Int) (0 : Int) (65535 : Int)).Kind ∧ IU64 (law12_known (1 : Int) (0 : Int) (65535 : Int)).In.Lo ∧ IU64 (law12_known (1 : Int) (0 : Int) (65535 : Int)).In.Hi := law12_known_ok (1 : Int) (0 : Int) (65535 : Int) (by omega) (by omega) (by omega) 
 refine WQ.val (dst := some 28) (.bool ((x19.2 == (0 : Int)) && ((x19.1.Kind == (law12_known (2 : Int) (4 : Int) (8 : Int)).Kind) && ((x19.1.In.Lo == (law12_known (2 : Int) (4 : Int) (8 : Int)).In.Lo) && (x19.1.In.Hi == (law12_known (2 : Int) (4 : Int) (8 : Int)).In.Hi))))) (fun _ => by kernel_rfl) ?_
 refine WQ.merge 11 [(5, pt g107 0), (31, .bool (((x19.2 == (0 : Int)) && ((x19.1.Kind == (law12_known (2 : Int) (4 : Int) (8 : Int)).Kind) && ((x19.1.In.Lo == (law12_known (2 : Int) (4 : Int) (8 : Int)).In.Lo) && (x19.1.In.Hi == (law12_known (2 : Int) (4 : Int) (8 : Int)).In.Hi)))) && (x59.2 == (113 : Int))))] (fun Q' => ?_) ?_
 ·
  cases hg133 : ((x19.2 == (0 : Int)) && ((x19.1.Kind == (law12_known (2 : Int) (4 : Int) (8 : Int)).Kind) && ((x19.1.In.Lo == (law12_known (2 : Int) (4 : Int) (8 : Int)).In.Lo) && (x19.1.In.Hi == (law12_known (2 : Int) (4 : Int) (8 : Int)).In.Hi))))
  ·
   have hk135 := hg133
   replace hg133 : (x19.2 ≠ (0 : Int)) ∨ ((x19.1.Kind ≠ (law12_known (2 : Int) (4 : Int) (8 : Int)).Kind) ∨ ((x19.1.In.Lo ≠ (law12_known (2 : Int) (4 : Int) (8 : Int)).In.Lo) ∨ (x19.1.In.Hi ≠ (law12_known (2 : Int) (4 : Int) (8 : Int)).In.Hi))) := (orMap (bAndF hg133) (fun h => (bEqF h)) (fun h => (orMap (bAndF h) (fun h => (bEqF h)) (fun h => (orMap (bAndF h) (fun h => (bEqF h)) (fun h => (bEqF h)))))))
   intro hM134
   refine WQ.pass1 (dst := some 29) (by kernel_rfl) ?_
   refine WQ.pass1 (dst := some 30) (by kernel_rfl) ?_
   refine WQ.val (dst := some 31) (.bool false) (fun _ => by kernel_rfl) ?_
   exact WQ.keep [5, 31] (by kernel_rfl) hM134
  ·
   have hk136 := hg133
   replace hg133 : (x19.2 = (0 : Int)) ∧ ((x19.1.Kind = (law12_known (2 : Int) (4 : Int) (8 : Int)).Kind) ∧ ((x19.1.In.Lo = (law12_known (2 : Int) (4 : Int) (8 : Int)).In.Lo) ∧ (x19.1.In.Hi = (law12_known (2 : Int) (4 : Int) (8 : Int)).In.Hi))) := ⟨(bEqT (bAndT hg133).1), ⟨(bEqT (bAndT (bAndT hg133).2).1), ⟨(bEqT (bAndT (bAndT (bAndT hg133).2).2).1), (bEqT (bAndT (bAndT (bAndT hg133).2).2).2)⟩⟩⟩
   intro hM134
   refine WQ.val (dst := some 29) (.int .i64 x59.2) (fun _ => by kernel_rfl) ?_
   refine WQ.val (dst := some 30) (.bool (x59.2 == (113 : Int))) (fun _ => by kernel_rfl) ?_
   refine WQ.val (dst := some 31) (.bool (x59.2 == (113 : Int))) (fun _ => by kernel_rfl) ?_
   exact WQ.keep [5, 31] (by kernel_rfl) hM134
 have hx137 : IU8 (law12_known (2 : Int) (4 : Int) (8 : Int)).Kind ∧ IU64 (law12_known (2 : Int) (4 : Int) (8 : Int)).In.Lo ∧ IU64 (law12_known (2 : Int) (4 : Int) (8 : Int)).In.Hi := law12_known_ok (2 : Int) (4 : Int) (8 : Int) (by omega) (by omega) (by omega) 
 have hx138 : IU8 (law12_known (1 : Int) (0 : Int) (70000 : Int)).Kind ∧ IU64 (law12_known (1 : Int) (0 : Int) (70000 : Int)).In.Lo ∧ IU64 (law12_known (1 : Int) (0 : Int) (70000 : Int)).In.Hi := law12_known_ok (1 : Int) (0 : Int) (70000 : Int) (by omega) (by omega) (by omega) 
 have hx139 : IU8 (law12_known (4 : Int) (0 : Int) (0 : Int)).Kind ∧ IU64 (law12_known (4 : Int) (0 : Int) (0 : Int)).In.Lo ∧ IU64 (law12_known (4 : Int) (0 : Int) (0 : Int)).In.Hi := law12_known_ok (4 : Int) (0 : Int) (0 : Int) (by omega) (by omega) (by omega) 
 have hx140 : IU8 (law12_known (1 : Int) (0 : Int) (65535 : Int)).Kind ∧ IU64 (law12_known (1 : Int) (0 : Int) (65535 : Int)).In.Lo ∧ IU64 (law12_known (1 : Int) (0 : Int) (65535 : Int)).In.Hi := law12_known_ok (1 : Int) (0 : Int) (65535 : Int) (by omega) (by omega) (by omega) 
 refine WQ.val (dst := some 32) (.bool (((x19.2 == (0 : Int)) && ((x19.1.Kind == (law12_known (2 : Int) (4 : Int) (8 : Int)).Kind) && ((x19.1.In.Lo == (law12_known (2 : Int) (4 : Int) (8 : Int)).In.Lo) && (x19.1.In.Hi == (law12_known (2 : Int) (4 : Int) (8 : Int)).In.Hi)))) && (x59.2 == (113 : Int)))) (fun _ => by kernel_rfl) ?_
 refine WQ.merge 16 [(36, .bool ((((x19.2 == (0 : Int)) && ((x19.1.Kind == (law12_known (2 : Int) (4 : Int) (8 : Int)).Kind) && ((x19.1.In.Lo == (law12_known (2 : Int) (4 : Int) (8 : Int)).In.Lo) && (x19.1.In.Hi == (law12_known (2 : Int) (4 : Int) (8 : Int)).In.Hi)))) && (x59.2 == (113 : Int))) && ((x99.Kind == (law12_known (1 : Int) (0 : Int) (70000 : Int)).Kind) && ((x99.In.Lo == (law12_known (1 : Int) (0 : Int) (70000 : Int)).In.Lo) && (x99.In.Hi == (law12_known (1 : Int) (0 : Int) (70000 : Int)).In.Hi)))))] (fun Q' => ?_) ?_
 ·
  cases hg141 : (((x19.2 == (0 : Int)) && ((x19.1.Kind == (law12_known (2 : Int) (4 : Int) (8 : Int)).Kind) && ((x19.1.In.Lo == (law12_known (2 : Int) (4 : Int) (8 : Int)).In.Lo) && (x19.1.In.Hi == (law12_known (2 : Int) (4 : Int) (8 : Int)).In.Hi)))) && (x59.2 == (113 : Int)))
  ·
   have hk143 := hg141
   replace hg141 : ((x19.2 ≠ (0 : Int)) ∨ ((x19.1.Kind ≠ (law12_known (2 : Int) (4 : Int) (8 : Int)).Kind) ∨ ((x19.1.In.Lo ≠ (law12_known (2 : Int) (4 : Int) (8 : Int)).In.Lo) ∨ (x19.1.In.Hi ≠ (law12_known (2 : Int) (4 : Int) (8 : Int)).In.Hi)))) ∨ (x59.2 ≠ (113 : Int)) := (orMap (bAndF hg141) (fun h => (orMap (bAndF h) (fun h => (bEqF h)) (fun h => (orMap (bAndF h) (fun h => (bEqF h)) (fun h => (orMap (bAndF h) (fun h => (bEqF h)) (fun h => (bEqF h)))))))) (fun h => (bEqF h)))
   intro hM142
   refine WQ.pass1 (dst := some 33) (by kernel_rfl) ?_
   refine WQ.pass1 (dst := some 34) (by kernel_rfl) ?_
   refine WQ.pass1 (dst := some 35) (by kernel_rfl) ?_
   refine WQ.val (dst := some 36) (.bool false) (fun _ => by kernel_rfl) ?_
   exact WQ.keep [36] (by kernel_rfl) hM142
  ·
   have hk144 := hg141
   replace hg141 : ((x19.2 = (0 : Int)) ∧ ((x19.1.Kind = (law12_known (2 : Int) (4 : Int) (8 : Int)).Kind) ∧ ((x19.1.In.Lo = (law12_known (2 : Int) (4 : Int) (8 : Int)).In.Lo) ∧ (x19.1.In.Hi = (law12_known (2 : Int) (4 : Int) (8 : Int)).In.Hi)))) ∧ (x59.2 = (113 : Int)) := ⟨⟨(bEqT (bAndT (bAndT hg141).1).1), ⟨(bEqT (bAndT (bAndT (bAndT hg141).1).2).1), ⟨(bEqT (bAndT (bAndT (bAndT (bAndT hg141).1).2).2).1), (bEqT (bAndT (bAndT (bAndT (bAndT hg141).1).2).2).2)⟩⟩⟩, (bEqT (bAndT hg141).2)⟩
   intro hM142
   refine WQ.load (dst := some 33) (t := 56) (o := 0) (fun _ hq => hb118.pure hq) (by kernel_rfl) (.agg #[.int .u8 x99.Kind, .int .u64 x99.In.Lo, .int .u64 x99.In.Hi]) (by kernel_rfl) ?_
   have hx145 : IU8 (law12_known (1 : Int) (0 : Int) (70000 : Int)).Kind ∧ IU64 (law12_known (1 : Int) (0 : Int) (70000 : Int)).In.Lo ∧ IU64 (law12_known (1 : Int) (0 : Int) (70000 : Int)).In.Hi := law12_known_ok (1 : Int) (0 : Int) (70000 : Int) (by omega) (by omega) (by omega) 
   refine WQ.call (dst := some 34) (.agg #[.int .u8 (law12_known (1 : Int) (0 : Int) (70000 : Int)).Kind, .int .u64 (law12_known (1 : Int) (0 : Int) (70000 : Int)).In.Lo, .int .u64 (law12_known (1 : Int) (0 : Int) (70000 : Int)).In.Hi]) (fun _ => by kernel_rfl) (fun _ _ h h' => h.pure h') (fun wq hq => law12_known_any (1 : Int) (0 : Int) (70000 : Int) wq  (by omega) (by omega) (by omega) ) ?_
   refine WQ.val (dst := some 35) (.bool ((x99.Kind == (law12_known (1 : Int) (0 : Int) (70000 : Int)).Kind) && ((x99.In.Lo == (law12_known (1 : Int) (0 : Int) (70000 : Int)).In.Lo) && (x99.In.Hi == (law12_known (1 : Int) (0 : Int) (70000 : Int)).In.Hi)))) (run_eqS (t := 56) (xs := #[.int .u8 x99.Kind, .int .u64 x99.In.Lo, .int .u64 x99.In.Hi]) (ys := #[.int .u8 (law12_known (1 : Int) (0 : Int) (70000 : Int)).Kind, .int .u64 (law12_known (1 : Int) (0 : Int) (70000 : Int)).In.Lo, .int .u64 (law12_known (1 : Int) (0 : Int) (70000 : Int)).In.Hi]) (neg := false) (b := ((x99.Kind == (law12_known (1 : Int) (0 : Int) (70000 : Int)).Kind) && ((x99.In.Lo == (law12_known (1 : Int) (0 : Int) (70000 : Int)).In.Lo) && (x99.In.Hi == (law12_known (1 : Int) (0 : Int) (70000 : Int)).In.Hi)))) (by kernel_rfl) (by kernel_rfl) (by kernel_rfl)) ?_
   refine WQ.val (dst := some 36) (.bool ((x99.Kind == (law12_known (1 : Int) (0 : Int) (70000 : Int)).Kind) && ((x99.In.Lo == (law12_known (1 : Int) (0 : Int) (70000 : Int)).In.Lo) && (x99.In.Hi == (law12_known (1 : Int) (0 : Int) (70000 : Int)).In.Hi)))) (fun _ => by kernel_rfl) ?_
   exact WQ.keep [36] (by kernel_rfl) hM142
 have hx146 : IU8 (law12_known (2 : Int) (4 : Int) (8 : Int)).Kind ∧ IU64 (law12_known (2 : Int) (4 : Int) (8 : Int)).In.Lo ∧ IU64 (law12_known (2 : Int) (4 : Int) (8 : Int)).In.Hi := law12_known_ok (2 : Int) (4 : Int) (8 : Int) (by omega) (by omega) (by omega) 
 have hx147 : IU8 (law12_known (1 : Int) (0 : Int) (70000 : Int)).Kind ∧ IU64 (law12_known (1 : Int) (0 : Int) (70000 : Int)).In.Lo ∧ IU64 (law12_known (1 : Int) (0 : Int) (70000 : Int)).In.Hi := law12_known_ok (1 : Int) (0 : Int) (70000 : Int) (by omega) (by omega) (by omega) 
 have hx148 : IU8 (law12_known (4 : Int) (0 : Int) (0 : Int)).Kind ∧ IU64 (law12_known (4 : Int) (0 : Int) (0 : Int)).In.Lo ∧ IU64 (law12_known (4 : Int) (0 : Int) (0 : Int)).In.Hi := law12_known_ok (4 : Int) (0 : Int) (0 : Int) (by omega) (by omega) (by omega) 
 have hx149 : IU8 (law12_known (1 : Int) (0 : Int) (65535 : Int)).Kind ∧ IU64 (law12_known (1 : Int) (0 : Int) (65535 : Int)).In.Lo ∧ IU64 (law12_known (1 : Int) (0 : Int) (65535 : Int)).In.Hi := law12_known_ok (1 : Int) (0 : Int) (65535 : Int) (by omega) (by omega) (by omega) 
 refine WQ.val (dst := some 37) (.bool ((((x19.2 == (0 : Int)) && ((x19.1.Kind == (law12_known (2 : Int) (4 : Int) (8 : Int)).Kind) && ((x19.1.In.Lo == (law12_known (2 : Int) (4 : Int) (8 : Int)).In.Lo) && (x19.1.In.Hi == (law12_known (2 : Int) (4 : Int) (8 : Int)).In.Hi)))) && (x59.2 == (113 : Int))) && ((x99.Kind == (law12_known (1 : Int) (0 : Int) (70000 : Int)).Kind) && ((x99.In.Lo == (law12_known (1 : Int) (0 : Int) (70000 : Int)).In.Lo) && (x99.In.Hi == (law12_known (1 : Int) (0 : Int) (70000 : Int)).In.Hi))))) (fun _ => by kernel_rfl) ?_
 refine WQ.merge 21 [(41, .bool (((((x19.2 == (0 : Int)) && ((x19.1.Kind == (law12_known (2 : Int) (4 : Int) (8 : Int)).Kind) && ((x19.1.In.Lo == (law12_known (2 : Int) (4 : Int) (8 : Int)).In.Lo) && (x19.1.In.Hi == (law12_known (2 : Int) (4 : Int) (8 : Int)).In.Hi)))) && (x59.2 == (113 : Int))) && ((x99.Kind == (law12_known (1 : Int) (0 : Int) (70000 : Int)).Kind) && ((x99.In.Lo == (law12_known (1 : Int) (0 : Int) (70000 : Int)).In.Lo) && (x99.In.Hi == (law12_known (1 : Int) (0 : Int) (70000 : Int)).In.Hi)))) && (kind_Within (law12_known (4 : Int) (0 : Int) (0 : Int)) (law12_known (1 : Int) (0 : Int) (65535 : Int)))))] (fun Q' => ?_) ?_
 ·
  cases hg150 : ((((x19.2 == (0 : Int)) && ((x19.1.Kind == (law12_known (2 : Int) (4 : Int) (8 : Int)).Kind) && ((x19.1.In.Lo == (law12_known (2 : Int) (4 : Int) (8 : Int)).In.Lo) && (x19.1.In.Hi == (law12_known (2 : Int) (4 : Int) (8 : Int)).In.Hi)))) && (x59.2 == (113 : Int))) && ((x99.Kind == (law12_known (1 : Int) (0 : Int) (70000 : Int)).Kind) && ((x99.In.Lo == (law12_known (1 : Int) (0 : Int) (70000 : Int)).In.Lo) && (x99.In.Hi == (law12_known (1 : Int) (0 : Int) (70000 : Int)).In.Hi))))
  ·
   have hk152 := hg150
   replace hg150 : (((x19.2 ≠ (0 : Int)) ∨ ((x19.1.Kind ≠ (law12_known (2 : Int) (4 : Int) (8 : Int)).Kind) ∨ ((x19.1.In.Lo ≠ (law12_known (2 : Int) (4 : Int) (8 : Int)).In.Lo) ∨ (x19.1.In.Hi ≠ (law12_known (2 : Int) (4 : Int) (8 : Int)).In.Hi)))) ∨ (x59.2 ≠ (113 : Int))) ∨ ((x99.Kind ≠ (law12_known (1 : Int) (0 : Int) (70000 : Int)).Kind) ∨ ((x99.In.Lo ≠ (law12_known (1 : Int) (0 : Int) (70000 : Int)).In.Lo) ∨ (x99.In.Hi ≠ (law12_known (1 : Int) (0 : Int) (70000 : Int)).In.Hi))) := (orMap (bAndF hg150) (fun h => (orMap (bAndF h) (fun h => (orMap (bAndF h) (fun h => (bEqF h)) (fun h => (orMap (bAndF h) (fun h => (bEqF h)) (fun h => (orMap (bAndF h) (fun h => (bEqF h)) (fun h => (bEqF h)))))))) (fun h => (bEqF h)))) (fun h => (orMap (bAndF h) (fun h => (bEqF h)) (fun h => (orMap (bAndF h) (fun h => (bEqF h)) (fun h => (bEqF h)))))))
   intro hM151
   refine WQ.pass1 (dst := some 38) (by kernel_rfl) ?_
   refine WQ.pass1 (dst := some 39) (by kernel_rfl) ?_
   refine WQ.pass1 (dst := some 40) (by kernel_rfl) ?_
   refine WQ.val (dst := some 41) (.bool false) (fun _ => by kernel_rfl) ?_
   exact WQ.keep [41] (by kernel_rfl) hM151
  ·
   have hk153 := hg150
   replace hg150 : (((x19.2 = (0 : Int)) ∧ ((x19.1.Kind = (law12_known (2 : Int) (4 : Int) (8 : Int)).Kind) ∧ ((x19.1.In.Lo = (law12_known (2 : Int) (4 : Int) (8 : Int)).In.Lo) ∧ (x19.1.In.Hi = (law12_known (2 : Int) (4 : Int) (8 : Int)).In.Hi)))) ∧ (x59.2 = (113 : Int))) ∧ ((x99.Kind = (law12_known (1 : Int) (0 : Int) (70000 : Int)).Kind) ∧ ((x99.In.Lo = (law12_known (1 : Int) (0 : Int) (70000 : Int)).In.Lo) ∧ (x99.In.Hi = (law12_known (1 : Int) (0 : Int) (70000 : Int)).In.Hi))) := ⟨⟨⟨(bEqT (bAndT (bAndT (bAndT hg150).1).1).1), ⟨(bEqT (bAndT (bAndT (bAndT (bAndT hg150).1).1).2).1), ⟨(bEqT (bAndT (bAndT (bAndT (bAndT (bAndT hg150).1).1).2).2).1), (bEqT (bAndT (bAndT (bAndT (bAndT (bAndT hg150).1).1).2).2).2)⟩⟩⟩, (bEqT (bAndT (bAndT hg150).1).2)⟩, ⟨(bEqT (bAndT (bAndT hg150).2).1), ⟨(bEqT (bAndT (bAndT (bAndT hg150).2).2).1), (bEqT (bAndT (bAndT (bAndT hg150).2).2).2)⟩⟩⟩
   intro hM151
   have hx154 : IU8 (law12_known (4 : Int) (0 : Int) (0 : Int)).Kind ∧ IU64 (law12_known (4 : Int) (0 : Int) (0 : Int)).In.Lo ∧ IU64 (law12_known (4 : Int) (0 : Int) (0 : Int)).In.Hi := law12_known_ok (4 : Int) (0 : Int) (0 : Int) (by omega) (by omega) (by omega) 
   refine WQ.call (dst := some 38) (.agg #[.int .u8 (law12_known (4 : Int) (0 : Int) (0 : Int)).Kind, .int .u64 (law12_known (4 : Int) (0 : Int) (0 : Int)).In.Lo, .int .u64 (law12_known (4 : Int) (0 : Int) (0 : Int)).In.Hi]) (fun _ => by kernel_rfl) (fun _ _ h h' => h.pure h') (fun wq hq => law12_known_any (4 : Int) (0 : Int) (0 : Int) wq  (by omega) (by omega) (by omega) ) ?_
   have hx155 : IU8 (law12_known (1 : Int) (0 : Int) (65535 : Int)).Kind ∧ IU64 (law12_known (1 : Int) (0 : Int) (65535 : Int)).In.Lo ∧ IU64 (law12_known (1 : Int) (0 : Int) (65535 : Int)).In.Hi := law12_known_ok (1 : Int) (0 : Int) (65535 : Int) (by omega) (by omega) (by omega) 
   refine WQ.call (dst := some 39) (.agg #[.int .u8 (law12_known (1 : Int) (0 : Int) (65535 : Int)).Kind, .int .u64 (law12_known (1 : Int) (0 : Int) (65535 : Int)).In.Lo, .int .u64 (law12_known (1 : Int) (0 : Int) (65535 : Int)).In.Hi]) (fun _ => by kernel_rfl) (fun _ _ h h' => h.pure h') (fun wq hq => law12_known_any (1 : Int) (0 : Int) (65535 : Int) wq  (by omega) (by omega) (by omega) ) ?_
   refine WQ.call (dst := some 40) (.bool (kind_Within (law12_known (4 : Int) (0 : Int) (0 : Int)) (law12_known (1 : Int) (0 : Int) (65535 : Int)))) (fun _ => by kernel_rfl) (fun _ _ h h' => h.pure h') (fun wq hq => kind_Within_any (law12_known (4 : Int) (0 : Int) (0 : Int)) (law12_known (1 : Int) (0 : Int) (65535 : Int)) wq  ⟨(by omega), (by omega), (by omega)⟩ ⟨(by omega), (by omega), (by omega)⟩ ) ?_
   refine WQ.val (dst := some 41) (.bool (kind_Within (law12_known (4 : Int) (0 : Int) (0 : Int)) (law12_known (1 : Int) (0 : Int) (65535 : Int)))) (fun _ => by kernel_rfl) ?_
   exact WQ.keep [41] (by kernel_rfl) hM151
 have hx156 : IU8 (law12_known (2 : Int) (4 : Int) (8 : Int)).Kind ∧ IU64 (law12_known (2 : Int) (4 : Int) (8 : Int)).In.Lo ∧ IU64 (law12_known (2 : Int) (4 : Int) (8 : Int)).In.Hi := law12_known_ok (2 : Int) (4 : Int) (8 : Int) (by omega) (by omega) (by omega) 
 have hx157 : IU8 (law12_known (1 : Int) (0 : Int) (70000 : Int)).Kind ∧ IU64 (law12_known (1 : Int) (0 : Int) (70000 : Int)).In.Lo ∧ IU64 (law12_known (1 : Int) (0 : Int) (70000 : Int)).In.Hi := law12_known_ok (1 : Int) (0 : Int) (70000 : Int) (by omega) (by omega) (by omega) 
 have hx158 : IU8 (law12_known (4 : Int) (0 : Int) (0 : Int)).Kind ∧ IU64 (law12_known (4 : Int) (0 : Int) (0 : Int)).In.Lo ∧ IU64 (law12_known (4 : Int) (0 : Int) (0 : Int)).In.Hi := law12_known_ok (4 : Int) (0 : Int) (0 : Int) (by omega) (by omega) (by omega) 
 have hx159 : IU8 (law12_known (1 : Int) (0 : Int) (65535 : Int)).Kind ∧ IU64 (law12_known (1 : Int) (0 : Int) (65535 : Int)).In.Lo ∧ IU64 (law12_known (1 : Int) (0 : Int) (65535 : Int)).In.Hi := law12_known_ok (1 : Int) (0 : Int) (65535 : Int) (by omega) (by omega) (by omega) 
 refine WQ.val (dst := some 0) (.bool (((((x19.2 == (0 : Int)) && ((x19.1.Kind == (law12_known (2 : Int) (4 : Int) (8 : Int)).Kind) && ((x19.1.In.Lo == (law12_known (2 : Int) (4 : Int) (8 : Int)).In.Lo) && (x19.1.In.Hi == (law12_known (2 : Int) (4 : Int) (8 : Int)).In.Hi)))) && (x59.2 == (113 : Int))) && ((x99.Kind == (law12_known (1 : Int) (0 : Int) (70000 : Int)).Kind) && ((x99.In.Lo == (law12_known (1 : Int) (0 : Int) (70000 : Int)).In.Lo) && (x99.In.Hi == (law12_known (1 : Int) (0 : Int) (70000 : Int)).In.Hi)))) && (kind_Within (law12_known (4 : Int) (0 : Int) (0 : Int)) (law12_known (1 : Int) (0 : Int) (65535 : Int))))) (fun _ => by kernel_rfl) ?_
 refine WQ.fin (by kernel_rfl) ?_
 intro w160 hc161
 have hz163 := hc161.size
 have hC162 := hC120.pure hc161
 refine go hK122 ?_
 refine CW.ret ?_
 exact retV (.bool (((((x19.2 == (0 : Int)) && ((x19.1.Kind == (law12_known (2 : Int) (4 : Int) (8 : Int)).Kind) && ((x19.1.In.Lo == (law12_known (2 : Int) (4 : Int) (8 : Int)).In.Lo) && (x19.1.In.Hi == (law12_known (2 : Int) (4 : Int) (8 : Int)).In.Hi)))) && (x59.2 == (113 : Int))) && ((x99.Kind == (law12_known (1 : Int) (0 : Int) (70000 : Int)).Kind) && ((x99.In.Lo == (law12_known (1 : Int) (0 : Int) (70000 : Int)).In.Lo) && (x99.In.Hi == (law12_known (1 : Int) (0 : Int) (70000 : Int)).In.Hi)))) && (kind_Within (law12_known (4 : Int) (0 : Int) (0 : Int)) (law12_known (1 : Int) (0 : Int) (65535 : Int))))) (by kernel_rfl) (⟨hC162, (congrArg (fun r : Bool => (.bool r : Value)) hs102).symm⟩)
end Go.V
