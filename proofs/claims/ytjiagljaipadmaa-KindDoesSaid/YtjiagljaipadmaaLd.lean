import Derived.Test.YtjiagljaipadmaaProg
import Derived.Test.YtjiagljaipadmaaLs
import Derived.Test.YtjiagljaipadmaaKs
namespace Go.V
open Go.RowKit Go.Proofs
def law12_KindDoes (a0 : Int) (a1 : Bool) (a2 : TKnown) (a3 : TKnown)  : Bool := (letF (law12_awake) fun x24 => (if (!x24) then false else (letF (kind_Do a0 a1 a2 a3) fun x38 => (letF (ref12_Do a0 a1 a2 a3) fun x64 => (((x38.1.Kind == x64.1.Kind) && ((x38.1.In.Lo == x64.1.In.Lo) && (x38.1.In.Hi == x64.1.In.Hi))) && (x38.2 == x64.2))))))

set_option maxRecDepth 100000 in
set_option maxHeartbeats 4000000 in
theorem law12_KindDoes_any (a0 : Int) (a1 : Bool) (a2 : TKnown) (a3 : TKnown)   (w : World)  (_h_a0 : IU8 a0) (_h_a2 : IU8 a2.Kind ∧ IU64 a2.In.Lo ∧ IU64 a2.In.Hi) (_h_a3 : IU8 a3.Kind ∧ IU64 a3.In.Lo ∧ IU64 a3.In.Hi)  : Calls Try.prog 8 #[.int .u8 a0, .bool a1, .agg #[.int .u8 a2.Kind, .int .u64 a2.In.Lo, .int .u64 a2.In.Hi], .agg #[.int .u8 a3.Kind, .int .u64 a3.In.Lo, .int .u64 a3.In.Hi]] w (RetV w (.bool (law12_KindDoes a0 a1 a2 a3))) := by
 have hs := law12_KindDoes.eq_1 a0 a1 a2 a3
 refine calls_of_CW Try.func8 rfl (n := 39) Try.ntmps8 (by kernel_rfl) [0, 1, 2, 3] (F := [(0, .int .u8 a0), (1, .bool a1), (2, .agg #[.int .u8 a2.Kind, .int .u64 a2.In.Lo, .int .u64 a2.In.Hi]), (3, .agg #[.int .u8 a3.Kind, .int .u64 a3.In.Lo, .int .u64 a3.In.Hi])]) (by kernel_rfl) ?_
 refine CW.seq fun K1 hK1 => ?_
 refine CW.region ?_
 refine WR.box (dst := some 6) (e := 56) (v := .agg #[.int .u8 a2.Kind, .int .u64 a2.In.Lo, .int .u64 a2.In.Hi]) (by kernel_rfl) #[.int .u8 a2.Kind, .int .u64 a2.In.Lo, .int .u64 a2.In.Hi] (by kernel_rfl) ?_
 intro g2 w3 hN4
 have hf6 : w.heap.size ≤ g2 := hN4.fresh
 have hfr8 := hN4.fresh
 have hc7 := hN4.chg
 have hz10 := hc7.size
 have hC9 := (Chg.refl [] w).pure hc7
 have hb5 := hN4.blk
 have hg11 := hb5.lt
 refine WR.box (dst := some 7) (e := 56) (v := .agg #[.int .u8 a3.Kind, .int .u64 a3.In.Lo, .int .u64 a3.In.Hi]) (by kernel_rfl) #[.int .u8 a3.Kind, .int .u64 a3.In.Lo, .int .u64 a3.In.Hi] (by kernel_rfl) ?_
 intro g12 w13 hN14
 have hf16 : w.heap.size ≤ g12 := Nat.le_trans hC9.size hN14.fresh
 have hfr18 := hN14.fresh
 have hc17 := hN14.chg
 have hz20 := hc17.size
 have hC19 := hC9.pure hc17
 have hb15 := hN14.blk
 have hg21 := hb15.lt
 refine WR.batch 1 [(0, .int .u8 a0), (1, .bool a1), (6, pt g2 0), (7, pt g12 0)] (by kernel_rfl) ?_
 refine WR.fin (by kernel_rfl) ?_
 refine go hK1 ?_
 refine CW.seq fun K22 hK22 => ?_
 refine CW.seq fun K23 hK23 => ?_
 refine CW.region ?_
 obtain ⟨x24, hx25⟩ : ∃ x, law12_awake = x := ⟨_, rfl⟩
 have hs26 := letS hx25 hs
 refine WR.call (dst := some 13) (by kernel_rfl) (retE (g := (fun r : Bool => (.bool r : Value))) hx25 (law12_awake_any  w13  )) ?_
 rintro _ w27 hc28 rfl
 have hz30 := hc28.size
 have hC29 := hC19.pure hc28
 refine WR.batch 1 [(0, .int .u8 a0), (1, .bool a1), (6, pt g2 0), (7, pt g12 0), (14, .bool (!x24))] (by kernel_rfl) ?_
 refine WR.fin (by kernel_rfl) ?_
 refine go hK23 ?_
 refine CW.cond ((!x24)) (by kernel_rfl) (fun ht31 => ?_) (fun ht31 => ?_)
 ·
  have hs32 := ifT ht31 hs26
  replace ht31 : x24 = false := (bNotT ht31)
  refine CW.seq fun K33 hK33 => ?_
  refine CW.region ?_
  refine WR.batch 1 [(8, .bool false)] (by kernel_rfl) ?_
  refine WR.fin (by kernel_rfl) ?_
  refine go hK33 ?_
  refine CW.ret ?_
  exact retV (.bool false) (by kernel_rfl) (⟨hC29, (congrArg (fun r : Bool => (.bool r : Value)) hs32).symm⟩)
 have hs34 := ifF ht31 hs26
 replace ht31 : x24 = true := (bNotF ht31)
 refine CW.skip ?_
 refine go hK22 ?_
 refine CW.seq fun K35 hK35 => ?_
 refine CW.region ?_
 refine WR.batch 2 [(0, .int .u8 a0), (1, .bool a1), (6, pt g2 0), (7, pt g12 0), (16, .int .u8 a0), (17, .bool a1)] (by kernel_rfl) ?_
 have hb36 := (hb5.pure hc17).pure hc28
 refine WR.load (dst := some 18) (t := 56) (o := 0) hb36 (by kernel_rfl) (.agg #[.int .u8 a2.Kind, .int .u64 a2.In.Lo, .int .u64 a2.In.Hi]) (by kernel_rfl) ?_
 have hb37 := hb15.pure hc28
 refine WR.load (dst := some 19) (t := 56) (o := 0) hb37 (by kernel_rfl) (.agg #[.int .u8 a3.Kind, .int .u64 a3.In.Lo, .int .u64 a3.In.Hi]) (by kernel_rfl) ?_
 obtain ⟨x38, hx39⟩ : ∃ x, kind_Do a0 a1 a2 a3 = x := ⟨_, rfl⟩
 have hs41 := letS hx39 hs34
 have hx40 : IU8 x38.1.Kind ∧ IU64 x38.1.In.Lo ∧ IU64 x38.1.In.Hi ∧ II64 x38.2 := by rw [← hx39]; exact kind_Do_ok a0 a1 a2 a3 (by omega) ⟨(by omega), (by omega), (by omega)⟩ ⟨(by omega), (by omega), (by omega)⟩ 
 refine WR.call (dst := some 20) (by kernel_rfl) (retE (g := (fun r : (TKnown × Int) => (.tuple #[TKnown.v r.1, .int .i64 r.2] : Value))) hx39 (kind_Do_any a0 a1 a2 a3 w27  (by omega) ⟨(by omega), (by omega), (by omega)⟩ ⟨(by omega), (by omega), (by omega)⟩ )) ?_
 rintro _ w42 hc43 rfl
 have hz45 := hc43.size
 have hC44 := hC29.pure hc43
 refine WR.batch 3 [(0, .int .u8 a0), (1, .bool a1), (6, pt g2 0), (7, pt g12 0), (21, .agg #[.int .u8 x38.1.Kind, .int .u64 x38.1.In.Lo, .int .u64 x38.1.In.Hi]), (22, .int .i64 x38.2)] (by kernel_rfl) ?_
 refine WR.alloc (dst := some 9) (e := 56) (by kernel_rfl) #[.int .u8 0, .int .u64 0, .int .u64 0] (by kernel_rfl) ?_
 intro g46 w47 hN48
 have hf50 : w.heap.size ≤ g46 := Nat.le_trans hC44.size hN48.fresh
 have hfr52 := hN48.fresh
 have hc51 := hN48.chg
 have hz54 := hc51.size
 have hC53 := hC44.pure hc51
 have hb49 := hN48.blk
 have hg55 := hb49.lt
 refine WR.store (t := 56) (o := 0) (v := .agg #[.int .u8 x38.1.Kind, .int .u64 x38.1.In.Lo, .int .u64 x38.1.In.Hi]) hb49 (by kernel_rfl) #[.int .u8 x38.1.Kind, .int .u64 x38.1.In.Lo, .int .u64 x38.1.In.Hi] (by kernel_rfl) ?_
 intro w56 hb57 hc58
 have hz60 := hc58.size
 have hC59 := hC53.step1 hc58 (by omega)
 refine WR.batch 1 [(0, .int .u8 a0), (1, .bool a1), (6, pt g2 0), (7, pt g12 0), (9, pt g46 0), (10, .int .i64 x38.2)] (by kernel_rfl) ?_
 refine WR.fin (by kernel_rfl) ?_
 refine go hK35 ?_
 refine CW.seq fun K61 hK61 => ?_
 refine CW.region ?_
 refine WR.batch 2 [(6, pt g2 0), (7, pt g12 0), (9, pt g46 0), (10, .int .i64 x38.2), (24, .int .u8 a0), (25, .bool a1)] (by kernel_rfl) ?_
 have hb62 := ((hb36.pure hc43).pure hc51).chg1 hc58 (by omega)
 refine WR.load (dst := some 26) (t := 56) (o := 0) hb62 (by kernel_rfl) (.agg #[.int .u8 a2.Kind, .int .u64 a2.In.Lo, .int .u64 a2.In.Hi]) (by kernel_rfl) ?_
 have hb63 := ((hb37.pure hc43).pure hc51).chg1 hc58 (by omega)
 refine WR.load (dst := some 27) (t := 56) (o := 0) hb63 (by kernel_rfl) (.agg #[.int .u8 a3.Kind, .int .u64 a3.In.Lo, .int .u64 a3.In.Hi]) (by kernel_rfl) ?_
 obtain ⟨x64, hx65⟩ : ∃ x, ref12_Do a0 a1 a2 a3 = x := ⟨_, rfl⟩
 have hs67 := letS hx65 hs41
 have hx66 : IU8 x64.1.Kind ∧ IU64 x64.1.In.Lo ∧ IU64 x64.1.In.Hi ∧ II64 x64.2 := by rw [← hx65]; exact ref12_Do_ok a0 a1 a2 a3 (by omega) ⟨(by omega), (by omega), (by omega)⟩ ⟨(by omega), (by omega), (by omega)⟩ 
 refine WR.call (dst := some 28) (by kernel_rfl) (retE (g := (fun r : (TKnown × Int) => (.tuple #[TKnown.v r.1, .int .i64 r.2] : Value))) hx65 (ref12_Do_any a0 a1 a2 a3 w56  (by omega) ⟨(by omega), (by omega), (by omega)⟩ ⟨(by omega), (by omega), (by omega)⟩ )) ?_
 rintro _ w68 hc69 rfl
 have hz71 := hc69.size
 have hC70 := hC59.pure hc69
 refine WR.batch 3 [(9, pt g46 0), (10, .int .i64 x38.2), (29, .agg #[.int .u8 x64.1.Kind, .int .u64 x64.1.In.Lo, .int .u64 x64.1.In.Hi]), (30, .int .i64 x64.2)] (by kernel_rfl) ?_
 refine WR.alloc (dst := some 11) (e := 56) (by kernel_rfl) #[.int .u8 0, .int .u64 0, .int .u64 0] (by kernel_rfl) ?_
 intro g72 w73 hN74
 have hf76 : w.heap.size ≤ g72 := Nat.le_trans hC70.size hN74.fresh
 have hfr78 := hN74.fresh
 have hc77 := hN74.chg
 have hz80 := hc77.size
 have hC79 := hC70.pure hc77
 have hb75 := hN74.blk
 have hg81 := hb75.lt
 refine WR.store (t := 56) (o := 0) (v := .agg #[.int .u8 x64.1.Kind, .int .u64 x64.1.In.Lo, .int .u64 x64.1.In.Hi]) hb75 (by kernel_rfl) #[.int .u8 x64.1.Kind, .int .u64 x64.1.In.Lo, .int .u64 x64.1.In.Hi] (by kernel_rfl) ?_
 intro w82 hb83 hc84
 have hz86 := hc84.size
 have hC85 := hC79.step1 hc84 (by omega)
 refine WR.batch 1 [(9, pt g46 0), (10, .int .i64 x38.2), (11, pt g72 0), (12, .int .i64 x64.2)] (by kernel_rfl) ?_
 refine WR.fin (by kernel_rfl) ?_
 refine go hK61 ?_
 refine CW.seq fun K87 hK87 => ?_
 refine CW.region ?_
 have hb88 := ((hb57.pure hc69).pure hc77).chg1 hc84 (by omega)
 refine WR.load (dst := some 31) (t := 56) (o := 0) hb88 (by kernel_rfl) (.agg #[.int .u8 x38.1.Kind, .int .u64 x38.1.In.Lo, .int .u64 x38.1.In.Hi]) (by kernel_rfl) ?_
 refine WR.load (dst := some 32) (t := 56) (o := 0) hb83 (by kernel_rfl) (.agg #[.int .u8 x64.1.Kind, .int .u64 x64.1.In.Lo, .int .u64 x64.1.In.Hi]) (by kernel_rfl) ?_
 refine WR.valR (dst := some 33) (v := .bool ((x38.1.Kind == x64.1.Kind) && ((x38.1.In.Lo == x64.1.In.Lo) && (x38.1.In.Hi == x64.1.In.Hi)))) (w' := w82) (run_eqS (t := 56) (xs := #[.int .u8 x38.1.Kind, .int .u64 x38.1.In.Lo, .int .u64 x38.1.In.Hi]) (ys := #[.int .u8 x64.1.Kind, .int .u64 x64.1.In.Lo, .int .u64 x64.1.In.Hi]) (neg := false) (b := ((x38.1.Kind == x64.1.Kind) && ((x38.1.In.Lo == x64.1.In.Lo) && (x38.1.In.Hi == x64.1.In.Hi)))) (by kernel_rfl) (by kernel_rfl) (by kernel_rfl) w82) ?_
 refine WR.batch 1 [(10, .int .i64 x38.2), (12, .int .i64 x64.2), (34, .bool ((x38.1.Kind == x64.1.Kind) && ((x38.1.In.Lo == x64.1.In.Lo) && (x38.1.In.Hi == x64.1.In.Hi))))] (by kernel_rfl) ?_
 refine WR.batch 4 [(38, .bool (((x38.1.Kind == x64.1.Kind) && ((x38.1.In.Lo == x64.1.In.Lo) && (x38.1.In.Hi == x64.1.In.Hi))) && (x38.2 == x64.2)))] (by generalize ((x38.1.Kind == x64.1.Kind) && ((x38.1.In.Lo == x64.1.In.Lo) && (x38.1.In.Hi == x64.1.In.Hi))) = b; cases b <;> kernel_rfl) ?_
 refine WR.batch 1 [(8, .bool (((x38.1.Kind == x64.1.Kind) && ((x38.1.In.Lo == x64.1.In.Lo) && (x38.1.In.Hi == x64.1.In.Hi))) && (x38.2 == x64.2)))] (by kernel_rfl) ?_
 refine WR.fin (by kernel_rfl) ?_
 refine go hK87 ?_
 refine CW.ret ?_
 exact retV (.bool (((x38.1.Kind == x64.1.Kind) && ((x38.1.In.Lo == x64.1.In.Lo) && (x38.1.In.Hi == x64.1.In.Hi))) && (x38.2 == x64.2))) (by kernel_rfl) (⟨hC85, (congrArg (fun r : Bool => (.bool r : Value)) hs67).symm⟩)
end Go.V
