import Derived.Test.YtjiagljaipadmaaProg
import Derived.Test.YtjiagljaipadmaaR0
import Derived.Test.YtjiagljaipadmaaKb
namespace Go.V
open Go.RowKit Go.Proofs
def ref12_Right_J1 (a0 : TKnown) (_v100 : Bool) (v200 : Bool) : Bool := (if v200 then (letF (ref11_Right a0.In) fun x47 => x47) else (if (a0.Kind == (3 : Int)) then (a0.In.Lo == a0.In.Hi) else false))

def ref12_Right_J0 (a0 : TKnown) (v100 : Bool) : Bool := (if v100 then ((a0.In.Lo == (0 : Int)) && (a0.In.Hi == (0 : Int))) else (if (a0.Kind == (1 : Int)) then (ref12_Right_J1 a0 v100 true) else (ref12_Right_J1 a0 v100 (a0.Kind == (2 : Int)))))

def ref12_Right (a0 : TKnown)  : Bool := (if (a0.Kind == (0 : Int)) then (ref12_Right_J0 a0 true) else (ref12_Right_J0 a0 (a0.Kind == (4 : Int))))

set_option maxRecDepth 100000 in
set_option maxHeartbeats 4000000 in
theorem ref12_Right_any (a0 : TKnown)   (w : World)  (_h_a0 : IU8 a0.Kind ∧ IU64 a0.In.Lo ∧ IU64 a0.In.Hi)  : Calls Try.prog 41 #[.agg #[.int .u8 a0.Kind, .int .u64 a0.In.Lo, .int .u64 a0.In.Hi]] w (RetV w (.bool (ref12_Right a0))) := by
 have hs := ref12_Right.eq_1 a0
 refine calls_of_CW Try.func41 rfl (n := 27) Try.ntmps41 (by kernel_rfl) [0] (F := [(0, .agg #[.int .u8 a0.Kind, .int .u64 a0.In.Lo, .int .u64 a0.In.Hi])]) (by kernel_rfl) ?_
 refine CW.seq fun K1 hK1 => ?_
 refine CW.region ?_
 refine WR.box (dst := some 1) (e := 56) (v := .agg #[.int .u8 a0.Kind, .int .u64 a0.In.Lo, .int .u64 a0.In.Hi]) (by kernel_rfl) #[.int .u8 a0.Kind, .int .u64 a0.In.Lo, .int .u64 a0.In.Hi] (by kernel_rfl) ?_
 intro g2 w3 hN4
 have hf6 : w.heap.size ≤ g2 := hN4.fresh
 have hfr8 := hN4.fresh
 have hc7 := hN4.chg
 have hz10 := hc7.size
 have hC9 := (Chg.refl [] w).pure hc7
 have hb5 := hN4.blk
 have hg11 := hb5.lt
 refine WR.batch 1 [(1, pt g2 0)] (by kernel_rfl) ?_
 refine WR.fin (by kernel_rfl) ?_
 refine go hK1 ?_
 refine CW.seq fun K12 hK12 => ?_
 refine CW.seq fun K13 hK13 => ?_
 refine CW.region ?_
 refine WR.batch 1 [(1, pt g2 0), (3, pt g2 0)] (by kernel_rfl) ?_
 refine WR.load (dst := some 4) (t := 54) (o := 0) hb5 (by kernel_rfl) (.int .u8 a0.Kind) (by kernel_rfl) ?_
 refine WR.fin (by kernel_rfl) ?_
 refine go hK13 ?_
 refine CW.block ?_
 refine CW.seq fun K14 hK14 => ?_
 refine CW.seq fun K15 hK15 => ?_
 refine CW.region ?_
 refine WR.batch 2 [(1, pt g2 0), (4, .int .u8 a0.Kind), (5, .bool (a0.Kind == (0 : Int)))] (by kernel_rfl) ?_
 refine WR.fin (by kernel_rfl) ?_
 refine go hK15 ?_
 refine CW.join hK14 (fun F' w' => ∃ (v100 : Bool), F' = [(1, pt g2 0), (4, .int .u8 a0.Kind), (5, .bool v100)] ∧ Chg [] w w' ∧ Blk w' g2 #[.int .u8 a0.Kind, .int .u64 a0.In.Lo, .int .u64 a0.In.Hi] 56 ∧ (ref12_Right a0) = ref12_Right_J0 a0 v100) ?_ ?_
 ·
  refine CW.cond ((a0.Kind == (0 : Int))) (by kernel_rfl) (fun ht20 => ?_) (fun ht20 => ?_)
  ·
   have hs21 := ifT ht20 hs
   refine CW.keep [1, 4, 5] (F' := [(1, pt g2 0), (4, .int .u8 a0.Kind), (5, .bool (a0.Kind == (0 : Int)))]) (by kernel_rfl) ?_
   refine CW.eqF (F' := [(1, pt g2 0), (4, .int .u8 a0.Kind), (5, .bool true)]) (by rw [ht20]) ?_
   have hk22 := ht20
   replace ht20 : a0.Kind = (0 : Int) := (bEqT ht20)
   refine CW.skip ?_
   exact fun _ ha => ⟨_, ha.keep [1, 4, 5] (F' := [(1, pt g2 0), (4, .int .u8 a0.Kind), (5, .bool true)]) (by kernel_rfl), true, rfl, hC9, hb5, hs21⟩
  have hs23 := ifF ht20 hs
  replace ht20 : a0.Kind ≠ (0 : Int) := (bEqF ht20)
  refine CW.region ?_
  refine WR.batch 2 [(1, pt g2 0), (4, .int .u8 a0.Kind), (5, .bool (a0.Kind == (4 : Int)))] (by kernel_rfl) ?_
  refine WR.fin (by kernel_rfl) ?_
  exact fun _ ha => ⟨_, ha.keep [1, 4, 5] (F' := [(1, pt g2 0), (4, .int .u8 a0.Kind), (5, .bool (a0.Kind == (4 : Int)))]) (by kernel_rfl), (a0.Kind == (4 : Int)), rfl, hC9, hb5, hs23⟩
 rintro _ w18 ⟨v100, rfl, hC16, hb19, hsj17⟩
 have hz24 := hC16.size
 have hs25 := hsj17.trans (ref12_Right_J0.eq_1 _ _)
 have hg26 := hb19.lt
 refine CW.cond (v100) (by kernel_rfl) (fun ht27 => ?_) (fun ht27 => ?_)
 ·
  have hs28 := ifT ht27 hs25
  refine CW.seq fun K29 hK29 => ?_
  refine CW.region ?_
  refine WR.batch 1 [(8, pt g2 1)] (by kernel_rfl) ?_
  refine WR.load (dst := some 9) (t := 25) (o := 1) hb19 (by kernel_rfl) (.agg #[.int .u64 a0.In.Lo, .int .u64 a0.In.Hi]) (by kernel_rfl) ?_
  refine WR.batch 1 [(9, .agg #[.int .u64 a0.In.Lo, .int .u64 a0.In.Hi]), (10, .agg #[.int .u64 0, .int .u64 0])] (by kernel_rfl) ?_
  refine WR.valR (dst := some 11) (v := .bool ((a0.In.Lo == (0 : Int)) && (a0.In.Hi == (0 : Int)))) (w' := w18) (run_eqS (t := 25) (xs := #[.int .u64 a0.In.Lo, .int .u64 a0.In.Hi]) (ys := #[.int .u64 0, .int .u64 0]) (neg := false) (b := ((a0.In.Lo == (0 : Int)) && (a0.In.Hi == (0 : Int)))) (by kernel_rfl) (by kernel_rfl) (by kernel_rfl) w18) ?_
  refine WR.batch 1 [(2, .bool ((a0.In.Lo == (0 : Int)) && (a0.In.Hi == (0 : Int))))] (by kernel_rfl) ?_
  refine WR.fin (by kernel_rfl) ?_
  refine go hK29 ?_
  refine CW.ret ?_
  exact retV (.bool ((a0.In.Lo == (0 : Int)) && (a0.In.Hi == (0 : Int)))) (by kernel_rfl) (⟨hC16, (congrArg (fun r : Bool => (.bool r : Value)) hs28).symm⟩)
 have hs30 := ifF ht27 hs25
 refine CW.seq fun K31 hK31 => ?_
 refine CW.seq fun K32 hK32 => ?_
 refine CW.region ?_
 refine WR.batch 2 [(1, pt g2 0), (4, .int .u8 a0.Kind), (12, .bool (a0.Kind == (1 : Int)))] (by kernel_rfl) ?_
 refine WR.fin (by kernel_rfl) ?_
 refine go hK32 ?_
 refine CW.join hK31 (fun F' w' => ∃ (v200 : Bool), F' = [(1, pt g2 0), (4, .int .u8 a0.Kind), (12, .bool v200)] ∧ Chg [] w w' ∧ Blk w' g2 #[.int .u8 a0.Kind, .int .u64 a0.In.Lo, .int .u64 a0.In.Hi] 56 ∧ (ref12_Right a0) = ref12_Right_J1 a0 v100 v200) ?_ ?_
 ·
  refine CW.cond ((a0.Kind == (1 : Int))) (by kernel_rfl) (fun ht37 => ?_) (fun ht37 => ?_)
  ·
   have hs38 := ifT ht37 hs30
   refine CW.keep [1, 4, 12] (F' := [(1, pt g2 0), (4, .int .u8 a0.Kind), (12, .bool (a0.Kind == (1 : Int)))]) (by kernel_rfl) ?_
   refine CW.eqF (F' := [(1, pt g2 0), (4, .int .u8 a0.Kind), (12, .bool true)]) (by rw [ht37]) ?_
   have hk39 := ht37
   replace ht37 : a0.Kind = (1 : Int) := (bEqT ht37)
   refine CW.skip ?_
   exact fun _ ha => ⟨_, ha.keep [1, 4, 12] (F' := [(1, pt g2 0), (4, .int .u8 a0.Kind), (12, .bool true)]) (by kernel_rfl), true, rfl, hC16, hb19, hs38⟩
  have hs40 := ifF ht37 hs30
  replace ht37 : a0.Kind ≠ (1 : Int) := (bEqF ht37)
  refine CW.region ?_
  refine WR.batch 2 [(1, pt g2 0), (4, .int .u8 a0.Kind), (12, .bool (a0.Kind == (2 : Int)))] (by kernel_rfl) ?_
  refine WR.fin (by kernel_rfl) ?_
  exact fun _ ha => ⟨_, ha.keep [1, 4, 12] (F' := [(1, pt g2 0), (4, .int .u8 a0.Kind), (12, .bool (a0.Kind == (2 : Int)))]) (by kernel_rfl), (a0.Kind == (2 : Int)), rfl, hC16, hb19, hs40⟩
 rintro _ w35 ⟨v200, rfl, hC33, hb36, hsj34⟩
 have hz41 := hC33.size
 have hs42 := hsj34.trans (ref12_Right_J1.eq_1 _ _ _)
 have hg43 := hb36.lt
 refine CW.cond (v200) (by kernel_rfl) (fun ht44 => ?_) (fun ht44 => ?_)
 ·
  have hs45 := ifT ht44 hs42
  refine CW.seq fun K46 hK46 => ?_
  refine CW.region ?_
  refine WR.batch 1 [(15, pt g2 1)] (by kernel_rfl) ?_
  refine WR.load (dst := some 16) (t := 25) (o := 1) hb36 (by kernel_rfl) (.agg #[.int .u64 a0.In.Lo, .int .u64 a0.In.Hi]) (by kernel_rfl) ?_
  obtain ⟨x47, hx48⟩ : ∃ x, ref11_Right a0.In = x := ⟨_, rfl⟩
  have hs49 := letS hx48 hs45
  refine WR.call (dst := some 17) (by kernel_rfl) (retE (g := (fun r : Bool => (.bool r : Value))) hx48 (ref11_Right_any a0.In w35  ⟨(by omega), (by omega)⟩ )) ?_
  rintro _ w50 hc51 rfl
  have hz53 := hc51.size
  have hC52 := hC33.pure hc51
  refine WR.batch 1 [(2, .bool x47)] (by kernel_rfl) ?_
  refine WR.fin (by kernel_rfl) ?_
  refine go hK46 ?_
  refine CW.ret ?_
  exact retV (.bool x47) (by kernel_rfl) (⟨hC52, (congrArg (fun r : Bool => (.bool r : Value)) hs49).symm⟩)
 have hs54 := ifF ht44 hs42
 refine CW.seq fun K55 hK55 => ?_
 refine CW.region ?_
 refine WR.batch 2 [(1, pt g2 0), (18, .bool (a0.Kind == (3 : Int)))] (by kernel_rfl) ?_
 refine WR.fin (by kernel_rfl) ?_
 refine go hK55 ?_
 refine CW.cond ((a0.Kind == (3 : Int))) (by kernel_rfl) (fun ht56 => ?_) (fun ht56 => ?_)
 ·
  have hs57 := ifT ht56 hs54
  replace ht56 : a0.Kind = (3 : Int) := (bEqT ht56)
  refine CW.seq fun K58 hK58 => ?_
  refine CW.region ?_
  refine WR.batch 2 [(1, pt g2 0), (21, pt g2 1)] (by kernel_rfl) ?_
  refine WR.load (dst := some 22) (t := 23) (o := 1) hb36 (by kernel_rfl) (.int .u64 a0.In.Lo) (by kernel_rfl) ?_
  refine WR.batch 2 [(22, .int .u64 a0.In.Lo), (24, pt g2 2)] (by kernel_rfl) ?_
  refine WR.load (dst := some 25) (t := 23) (o := 2) hb36 (by kernel_rfl) (.int .u64 a0.In.Hi) (by kernel_rfl) ?_
  refine WR.batch 2 [(2, .bool (a0.In.Lo == a0.In.Hi))] (by kernel_rfl) ?_
  refine WR.fin (by kernel_rfl) ?_
  refine go hK58 ?_
  refine CW.ret ?_
  exact retV (.bool (a0.In.Lo == a0.In.Hi)) (by kernel_rfl) (⟨hC33, (congrArg (fun r : Bool => (.bool r : Value)) hs57).symm⟩)
 have hs59 := ifF ht56 hs54
 replace ht56 : a0.Kind ≠ (3 : Int) := (bEqF ht56)
 refine CW.skip ?_
 refine go hK12 ?_
 refine CW.seq fun K60 hK60 => ?_
 refine CW.region ?_
 refine WR.batch 1 [(2, .bool false)] (by kernel_rfl) ?_
 refine WR.fin (by kernel_rfl) ?_
 refine go hK60 ?_
 refine CW.ret ?_
 exact retV (.bool false) (by kernel_rfl) (⟨hC33, (congrArg (fun r : Bool => (.bool r : Value)) hs59).symm⟩)

def ref12_Holds (a0 : TKnown) (a1 : Int) (a2 : Int) (a3 : Int)  : Bool := (letF (ref12_Right a0) fun x14 => (if (!x14) then false else (if (a0.Kind == (0 : Int)) then true else (if (a0.Kind == (4 : Int)) then (((a1 == (1 : Int)) && (decide (a3 ≥ (0 : Int)))) && (a2 == (IntKind.u64.wrap a3))) else (((a1 == a0.Kind) && (decide (a0.In.Lo ≤ a2))) && (decide (a2 ≤ a0.In.Hi)))))))

set_option maxRecDepth 100000 in
set_option maxHeartbeats 4000000 in
theorem ref12_Holds_any (a0 : TKnown) (a1 : Int) (a2 : Int) (a3 : Int)   (w : World)  (_h_a0 : IU8 a0.Kind ∧ IU64 a0.In.Lo ∧ IU64 a0.In.Hi) (_h_a1 : IU8 a1) (_h_a2 : IU64 a2) (_h_a3 : II64 a3)  : Calls Try.prog 43 #[.agg #[.int .u8 a0.Kind, .int .u64 a0.In.Lo, .int .u64 a0.In.Hi], .int .u8 a1, .int .u64 a2, .int .i64 a3] w (RetV w (.bool (ref12_Holds a0 a1 a2 a3))) := by
 have hs := ref12_Holds.eq_1 a0 a1 a2 a3
 refine calls_of_CW Try.func43 rfl (n := 48) Try.ntmps43 (by kernel_rfl) [0, 1, 2, 3] (F := [(0, .agg #[.int .u8 a0.Kind, .int .u64 a0.In.Lo, .int .u64 a0.In.Hi]), (1, .int .u8 a1), (2, .int .u64 a2), (3, .int .i64 a3)]) (by kernel_rfl) ?_
 refine CW.seq fun K1 hK1 => ?_
 refine CW.region ?_
 refine WR.box (dst := some 4) (e := 56) (v := .agg #[.int .u8 a0.Kind, .int .u64 a0.In.Lo, .int .u64 a0.In.Hi]) (by kernel_rfl) #[.int .u8 a0.Kind, .int .u64 a0.In.Lo, .int .u64 a0.In.Hi] (by kernel_rfl) ?_
 intro g2 w3 hN4
 have hf6 : w.heap.size ≤ g2 := hN4.fresh
 have hfr8 := hN4.fresh
 have hc7 := hN4.chg
 have hz10 := hc7.size
 have hC9 := (Chg.refl [] w).pure hc7
 have hb5 := hN4.blk
 have hg11 := hb5.lt
 refine WR.batch 1 [(1, .int .u8 a1), (2, .int .u64 a2), (3, .int .i64 a3), (4, pt g2 0)] (by kernel_rfl) ?_
 refine WR.fin (by kernel_rfl) ?_
 refine go hK1 ?_
 refine CW.seq fun K12 hK12 => ?_
 refine CW.seq fun K13 hK13 => ?_
 refine CW.region ?_
 refine WR.load (dst := some 9) (t := 56) (o := 0) hb5 (by kernel_rfl) (.agg #[.int .u8 a0.Kind, .int .u64 a0.In.Lo, .int .u64 a0.In.Hi]) (by kernel_rfl) ?_
 obtain ⟨x14, hx15⟩ : ∃ x, ref12_Right a0 = x := ⟨_, rfl⟩
 have hs16 := letS hx15 hs
 refine WR.call (dst := some 10) (by kernel_rfl) (retE (g := (fun r : Bool => (.bool r : Value))) hx15 (ref12_Right_any a0 w3  ⟨(by omega), (by omega), (by omega)⟩ )) ?_
 rintro _ w17 hc18 rfl
 have hz20 := hc18.size
 have hC19 := hC9.pure hc18
 refine WR.batch 1 [(1, .int .u8 a1), (2, .int .u64 a2), (3, .int .i64 a3), (4, pt g2 0), (11, .bool (!x14))] (by kernel_rfl) ?_
 refine WR.fin (by kernel_rfl) ?_
 refine go hK13 ?_
 refine CW.cond ((!x14)) (by kernel_rfl) (fun ht21 => ?_) (fun ht21 => ?_)
 ·
  have hs22 := ifT ht21 hs16
  replace ht21 : x14 = false := (bNotT ht21)
  refine CW.seq fun K23 hK23 => ?_
  refine CW.region ?_
  refine WR.batch 1 [(8, .bool false)] (by kernel_rfl) ?_
  refine WR.fin (by kernel_rfl) ?_
  refine go hK23 ?_
  refine CW.ret ?_
  exact retV (.bool false) (by kernel_rfl) (⟨hC19, (congrArg (fun r : Bool => (.bool r : Value)) hs22).symm⟩)
 have hs24 := ifF ht21 hs16
 replace ht21 : x14 = true := (bNotF ht21)
 refine CW.skip ?_
 refine go hK12 ?_
 refine CW.seq fun K25 hK25 => ?_
 refine CW.seq fun K26 hK26 => ?_
 refine CW.region ?_
 refine WR.batch 1 [(1, .int .u8 a1), (2, .int .u64 a2), (3, .int .i64 a3), (4, pt g2 0), (12, pt g2 0)] (by kernel_rfl) ?_
 have hb27 := hb5.pure hc18
 refine WR.load (dst := some 13) (t := 54) (o := 0) hb27 (by kernel_rfl) (.int .u8 a0.Kind) (by kernel_rfl) ?_
 refine WR.fin (by kernel_rfl) ?_
 refine go hK26 ?_
 refine CW.block ?_
 refine CW.seq fun K28 hK28 => ?_
 refine CW.region ?_
 refine WR.batch 2 [(1, .int .u8 a1), (2, .int .u64 a2), (3, .int .i64 a3), (4, pt g2 0), (13, .int .u8 a0.Kind), (14, .bool (a0.Kind == (0 : Int)))] (by kernel_rfl) ?_
 refine WR.fin (by kernel_rfl) ?_
 refine go hK28 ?_
 refine CW.cond ((a0.Kind == (0 : Int))) (by kernel_rfl) (fun ht29 => ?_) (fun ht29 => ?_)
 ·
  have hs30 := ifT ht29 hs24
  replace ht29 : a0.Kind = (0 : Int) := (bEqT ht29)
  refine CW.seq fun K31 hK31 => ?_
  refine CW.region ?_
  refine WR.batch 1 [(8, .bool true)] (by kernel_rfl) ?_
  refine WR.fin (by kernel_rfl) ?_
  refine go hK31 ?_
  refine CW.ret ?_
  exact retV (.bool true) (by kernel_rfl) (⟨hC19, (congrArg (fun r : Bool => (.bool r : Value)) hs30).symm⟩)
 have hs32 := ifF ht29 hs24
 replace ht29 : a0.Kind ≠ (0 : Int) := (bEqF ht29)
 refine CW.seq fun K33 hK33 => ?_
 refine CW.region ?_
 refine WR.batch 2 [(1, .int .u8 a1), (2, .int .u64 a2), (3, .int .i64 a3), (4, pt g2 0), (16, .bool (a0.Kind == (4 : Int)))] (by kernel_rfl) ?_
 refine WR.fin (by kernel_rfl) ?_
 refine go hK33 ?_
 refine CW.cond ((a0.Kind == (4 : Int))) (by kernel_rfl) (fun ht34 => ?_) (fun ht34 => ?_)
 ·
  have hs35 := ifT ht34 hs32
  replace ht34 : a0.Kind = (4 : Int) := (bEqT ht34)
  refine CW.seq fun K36 hK36 => ?_
  refine CW.region ?_
  refine WR.batch 3 [(2, .int .u64 a2), (3, .int .i64 a3), (20, .bool (a1 == (1 : Int)))] (by kernel_rfl) ?_
  refine WR.batch 3 [(2, .int .u64 a2), (3, .int .i64 a3), (23, .bool ((a1 == (1 : Int)) && (decide (a3 ≥ (0 : Int)))))] (by generalize (a1 == (1 : Int)) = b; cases b <;> kernel_rfl) ?_
  refine WR.batch 1 [(2, .int .u64 a2), (3, .int .i64 a3), (24, .bool ((a1 == (1 : Int)) && (decide (a3 ≥ (0 : Int)))))] (by kernel_rfl) ?_
  refine WR.batch 5 [(29, .bool (((a1 == (1 : Int)) && (decide (a3 ≥ (0 : Int)))) && (a2 == (IntKind.u64.wrap a3))))] (by generalize ((a1 == (1 : Int)) && (decide (a3 ≥ (0 : Int)))) = b; cases b <;> kernel_rfl) ?_
  refine WR.batch 1 [(8, .bool (((a1 == (1 : Int)) && (decide (a3 ≥ (0 : Int)))) && (a2 == (IntKind.u64.wrap a3))))] (by kernel_rfl) ?_
  refine WR.fin (by kernel_rfl) ?_
  refine go hK36 ?_
  refine CW.ret ?_
  exact retV (.bool (((a1 == (1 : Int)) && (decide (a3 ≥ (0 : Int)))) && (a2 == (IntKind.u64.wrap a3)))) (by kernel_rfl) (⟨hC19, (congrArg (fun r : Bool => (.bool r : Value)) hs35).symm⟩)
 have hs37 := ifF ht34 hs32
 replace ht34 : a0.Kind ≠ (4 : Int) := (bEqF ht34)
 refine CW.skip ?_
 refine go hK25 ?_
 refine CW.seq fun K38 hK38 => ?_
 refine CW.region ?_
 refine WR.batch 2 [(2, .int .u64 a2), (4, pt g2 0), (30, .int .u8 a1), (31, pt g2 0)] (by kernel_rfl) ?_
 refine WR.load (dst := some 32) (t := 54) (o := 0) hb27 (by kernel_rfl) (.int .u8 a0.Kind) (by kernel_rfl) ?_
 refine WR.batch 2 [(2, .int .u64 a2), (4, pt g2 0), (34, .bool (a1 == a0.Kind))] (by kernel_rfl) ?_
 refine WR.mergeW 11 [(2, .int .u64 a2), (4, pt g2 0), (40, .bool ((a1 == a0.Kind) && (decide (a0.In.Lo ≤ a2))))] (fun w' => Chg [] w17 w') (fun Q' => ?_) ?_
 ·
  cases hg39 : (a1 == a0.Kind)
  ·
   have hk41 := hg39
   replace hg39 : a1 ≠ a0.Kind := (bEqF hg39)
   intro hM40
   refine WR.batch 6 [(2, .int .u64 a2), (4, pt g2 0), (40, .bool false)] (by kernel_rfl) ?_
   exact WR.keep [2, 4, 40] (by kernel_rfl) (hM40 _ (Chg.refl [] w17))
  ·
   have hk42 := hg39
   replace hg39 : a1 = a0.Kind := (bEqT hg39)
   intro hM40
   refine WR.batch 2 [(2, .int .u64 a2), (4, pt g2 0), (34, .bool true), (36, pt g2 1)] (by kernel_rfl) ?_
   refine WR.load (dst := some 37) (t := 23) (o := 1) hb27 (by kernel_rfl) (.int .u64 a0.In.Lo) (by kernel_rfl) ?_
   refine WR.batch 3 [(2, .int .u64 a2), (4, pt g2 0), (40, .bool (decide (a0.In.Lo ≤ a2)))] (by kernel_rfl) ?_
   exact WR.keep [2, 4, 40] (by kernel_rfl) (hM40 _ (Chg.refl [] w17))
 intro w43 hc44
 have hz46 := hc44.size
 have hC45 := hC19.pure hc44
 refine WR.batch 1 [(2, .int .u64 a2), (4, pt g2 0), (41, .bool ((a1 == a0.Kind) && (decide (a0.In.Lo ≤ a2))))] (by kernel_rfl) ?_
 refine WR.mergeW 18 [(47, .bool (((a1 == a0.Kind) && (decide (a0.In.Lo ≤ a2))) && (decide (a2 ≤ a0.In.Hi))))] (fun w' => Chg [] w43 w') (fun Q' => ?_) ?_
 ·
  cases hg47 : ((a1 == a0.Kind) && (decide (a0.In.Lo ≤ a2)))
  ·
   have hk49 := hg47
   replace hg47 : (a1 ≠ a0.Kind) ∨ (¬ (a0.In.Lo ≤ a2)) := (orMap (bAndF hg47) (fun h => (bEqF h)) (fun h => (of_decide_eq_false h)))
   intro hM48
   refine WR.batch 6 [(47, .bool false)] (by kernel_rfl) ?_
   exact WR.keep [47] (by kernel_rfl) (hM48 _ (Chg.refl [] w43))
  ·
   have hk50 := hg47
   replace hg47 : (a1 = a0.Kind) ∧ (a0.In.Lo ≤ a2) := ⟨(bEqT (bAndT hg47).1), (of_decide_eq_true (bAndT hg47).2)⟩
   intro hM48
   refine WR.batch 3 [(41, .bool true), (42, .int .u64 a2), (44, pt g2 2)] (by kernel_rfl) ?_
   have hb51 := hb27.pure hc44
   refine WR.load (dst := some 45) (t := 23) (o := 2) hb51 (by kernel_rfl) (.int .u64 a0.In.Hi) (by kernel_rfl) ?_
   refine WR.batch 2 [(47, .bool (decide (a2 ≤ a0.In.Hi)))] (by kernel_rfl) ?_
   exact WR.keep [47] (by kernel_rfl) (hM48 _ (Chg.refl [] w43))
 intro w52 hc53
 have hz55 := hc53.size
 have hC54 := hC45.pure hc53
 refine WR.batch 1 [(8, .bool (((a1 == a0.Kind) && (decide (a0.In.Lo ≤ a2))) && (decide (a2 ≤ a0.In.Hi))))] (by kernel_rfl) ?_
 refine WR.fin (by kernel_rfl) ?_
 refine go hK38 ?_
 refine CW.ret ?_
 exact retV (.bool (((a1 == a0.Kind) && (decide (a0.In.Lo ≤ a2))) && (decide (a2 ≤ a0.In.Hi)))) (by kernel_rfl) (⟨hC54, (congrArg (fun r : Bool => (.bool r : Value)) hs37).symm⟩)

def ref12_Number (a0 : TKnown)  : (TSpan × Bool) := (if (a0.Kind == (4 : Int)) then ((⟨(0 : Int), (65535 : Int)⟩ : TSpan), true) else (a0.In, (a0.Kind == (1 : Int))))

theorem ref12_Number_ok (a0 : TKnown)  (_h_a0 : IU8 a0.Kind ∧ IU64 a0.In.Lo ∧ IU64 a0.In.Hi)  : IU64 (ref12_Number a0).1.Lo ∧ IU64 (ref12_Number a0).1.Hi := by
 rw [ref12_Number.eq_1]
 refine iteR (p := fun r : (TSpan × Bool) => IU64 r.1.Lo ∧ IU64 r.1.Hi) (fun hi1001 => ?_) (fun hi1001 => ?_)
 ·
  replace hi1001 : a0.Kind = (4 : Int) := (bEqT hi1001)
  exact (by exact (show IU64 (0 : Int) ∧ IU64 (65535 : Int) from ⟨(by omega), (by omega)⟩))
 replace hi1001 : a0.Kind ≠ (4 : Int) := (bEqF hi1001)
 exact (by exact (show IU64 a0.In.Lo ∧ IU64 a0.In.Hi from ⟨(by omega), (by omega)⟩))

theorem ref12_Number_any (a0 : TKnown)   (w : World)  (_h_a0 : IU8 a0.Kind ∧ IU64 a0.In.Lo ∧ IU64 a0.In.Hi)  : Calls Try.prog 66 #[.agg #[.int .u8 a0.Kind, .int .u64 a0.In.Lo, .int .u64 a0.In.Hi]] w (RetV w (.tuple #[TSpan.v (ref12_Number a0).1, .bool (ref12_Number a0).2])) := by
 have hs := ref12_Number.eq_1 a0
 refine calls_of_CW Try.func66 rfl (n := 13) Try.ntmps66 (by kernel_rfl) [0] (F := [(0, .agg #[.int .u8 a0.Kind, .int .u64 a0.In.Lo, .int .u64 a0.In.Hi])]) (by kernel_rfl) ?_
 refine CW.seq fun K1 hK1 => ?_
 refine CW.region ?_
 refine WR.box (dst := some 1) (e := 56) (v := .agg #[.int .u8 a0.Kind, .int .u64 a0.In.Lo, .int .u64 a0.In.Hi]) (by kernel_rfl) #[.int .u8 a0.Kind, .int .u64 a0.In.Lo, .int .u64 a0.In.Hi] (by kernel_rfl) ?_
 intro g2 w3 hN4
 have hf6 : w.heap.size ≤ g2 := hN4.fresh
 have hfr8 := hN4.fresh
 have hc7 := hN4.chg
 have hz10 := hc7.size
 have hC9 := (Chg.refl [] w).pure hc7
 have hb5 := hN4.blk
 have hg11 := hb5.lt
 refine WR.alloc (dst := some 2) (e := 25) (by kernel_rfl) #[.int .u64 0, .int .u64 0] (by kernel_rfl) ?_
 intro g12 w13 hN14
 have hf16 : w.heap.size ≤ g12 := Nat.le_trans hC9.size hN14.fresh
 have hfr18 := hN14.fresh
 have hc17 := hN14.chg
 have hz20 := hc17.size
 have hC19 := hC9.pure hc17
 have hb15 := hN14.blk
 have hg21 := hb15.lt
 refine WR.batch 1 [(1, pt g2 0), (2, pt g12 0)] (by kernel_rfl) ?_
 refine WR.fin (by kernel_rfl) ?_
 refine go hK1 ?_
 refine CW.seq fun K22 hK22 => ?_
 refine CW.seq fun K23 hK23 => ?_
 refine CW.region ?_
 refine WR.batch 1 [(1, pt g2 0), (2, pt g12 0), (4, pt g2 0)] (by kernel_rfl) ?_
 have hb24 := hb5.pure hc17
 refine WR.load (dst := some 5) (t := 54) (o := 0) hb24 (by kernel_rfl) (.int .u8 a0.Kind) (by kernel_rfl) ?_
 refine WR.batch 1 [(1, pt g2 0), (2, pt g12 0), (6, .bool (a0.Kind == (4 : Int)))] (by kernel_rfl) ?_
 refine WR.fin (by kernel_rfl) ?_
 refine go hK23 ?_
 refine CW.cond ((a0.Kind == (4 : Int))) (by kernel_rfl) (fun ht25 => ?_) (fun ht25 => ?_)
 ·
  have hs26 := ifT ht25 hs
  replace ht25 : a0.Kind = (4 : Int) := (bEqT ht25)
  refine CW.seq fun K27 hK27 => ?_
  refine CW.region ?_
  refine WR.batch 1 [(2, pt g12 0), (7, .agg #[.int .u64 0, .int .u64 65535])] (by kernel_rfl) ?_
  refine WR.store (t := 25) (o := 0) (v := .agg #[.int .u64 0, .int .u64 65535]) hb15 (by kernel_rfl) #[.int .u64 0, .int .u64 65535] (by kernel_rfl) ?_
  intro w28 hb29 hc30
  have hz32 := hc30.size
  have hC31 := hC19.step1 hc30 (by omega)
  refine WR.batch 1 [(2, pt g12 0), (3, .bool true)] (by kernel_rfl) ?_
  refine WR.fin (by kernel_rfl) ?_
  refine go hK27 ?_
  refine CW.ret ?_
  exact retC [.agg #[.int .u64 0, .int .u64 65535], .bool true] _ rfl ⟨resCell hb29 rfl (by kernel_rfl), rfl, trivial⟩ (⟨hC31, (congrArg (fun r : (TSpan × Bool) => (.tuple #[TSpan.v r.1, .bool r.2] : Value)) hs26).symm⟩)
 have hs33 := ifF ht25 hs
 replace ht25 : a0.Kind ≠ (4 : Int) := (bEqF ht25)
 refine CW.skip ?_
 refine go hK22 ?_
 refine CW.seq fun K34 hK34 => ?_
 refine CW.keep [1, 2] (F' := [(1, pt g2 0), (2, pt g12 0)]) (by kernel_rfl) ?_
 refine CW.regionG 6 [some (pt g2 1), some (.agg #[.int .u64 a0.In.Lo, .int .u64 a0.In.Hi]), some (pt g2 0), some (.int .u8 a0.Kind), some (.bool (a0.Kind == (1 : Int))), none] (fun u => [(8, pt g2 1), (9, .agg #[.int .u64 a0.In.Lo, .int .u64 a0.In.Hi]), (10, pt g2 0), (11, .int .u8 a0.Kind), (12, .bool (a0.Kind == (1 : Int))), (1, pt g2 0), (2, pt g12 0)]) (fun _ => by kernel_rfl) (by kernel_rfl) [(5, g12)] (fun i w' => match i with | 0 => True | 1 => True | 2 => True | 3 => True | 4 => True | 5 => Blk w' g12 #[.int .u64 0, .int .u64 0] 25 | _ => True) (fun j => match j with | 0 => trivial | 1 => trivial | 2 => trivial | 3 => trivial | 4 => trivial | 5 => hb15.pure (Chg.drew w13) | j + 6 => trivial) ?_ [] [] (by kernel_rfl) (fun w' => Chg [g12] w13 w') (fun i v w' => match i with | 0 => True | 1 => True | 2 => True | 3 => True | 4 => True | 5 => Blk w' g12 #[.int .u64 a0.In.Lo, .int .u64 a0.In.Hi] 25 | _ => True) (fun j x w hj h => absurd hj (by simp)) (by kernel_rfl) (by kernel_rfl) (by kernel_rfl) (by kernel_rfl) ((Chg.drew w13).weak (by simp)) (fun _ _ _ h h' => h.step h' (fun t ht => .inl (cL_sub t ht))) ?_ (obsG_batch 1 0 5 (fun _ _ => by kernel_rfl) (by kernel_rfl) ⟨?_, (obsG_batch 1 2 3 (fun _ _ => by kernel_rfl) (by kernel_rfl) ⟨?_, (obsG_batch 1 4 1 (fun _ _ => by kernel_rfl) (by kernel_rfl) ⟨?_, trivial⟩)⟩)⟩) ?_
 ·
  intro i j w1 w2 hij h hc
  match j, hij, h with
  | 0, hij, h => exact trivial
  | 1, hij, h => exact trivial
  | 2, hij, h => exact trivial
  | 3, hij, h => exact trivial
  | 4, hij, h => exact trivial
  | 5, hij, h => exact h.chg hc (cL_not (by intro p hp e; simp only [List.mem_cons, List.not_mem_nil, or_false] at hp; rcases hp with rfl <;> (simp only at e ⊢; omega)))
  | n + 6, _, _ => trivial
 ·
  intro i j v w1 w2 hij h hc
  match j, hij, h with
  | 0, _, _ => trivial
  | 1, _, _ => trivial
  | 2, _, _ => trivial
  | 3, _, _ => trivial
  | 4, _, _ => trivial
  | 5, hij, h => exact h.chg hc (cL_not (by intro p hp e; simp only [List.mem_cons, List.not_mem_nil, or_false] at hp; rcases hp with rfl <;> (simp only at e ⊢; omega)))
  | n + 6, _, _ => trivial
 ·
  intro u35 w36 hW37 hPr40 hp38 hal39
  have hz42 := hW37.size
  have hC41 := hC19.step1 hW37 (by omega)
  have hb43 : Blk w36 g12 #[.int .u64 0, .int .u64 0] 25 := hPr40 5 (.inr (.one (by kernel_rfl)))
  have hb44 := hb24.chg1 hW37 (by omega)
  refine WR.load (dst := some 9) (t := 25) (o := 1) hb44 (by kernel_rfl) (.agg #[.int .u64 a0.In.Lo, .int .u64 a0.In.Hi]) (by kernel_rfl) ?_
  refine WR.fin (by kernel_rfl) ?_
  exact fun _ ha => ⟨Chg.refl _ _, _, ha, ⟨⟨fun h => absurd h (by decide), alNone (by decide)⟩, rfl⟩⟩
 ·
  intro u45 w46 hW47 _ hp48 hal49
  have hz52 := hW47.size
  have hC51 := hC19.step1 hW47 (by omega)
  have hb53 := hb24.chg1 hW47 (by omega)
  refine WR.load (dst := some 11) (t := 54) (o := 0) hb53 (by kernel_rfl) (.int .u8 a0.Kind) (by kernel_rfl) ?_
  refine WR.fin (by kernel_rfl) ?_
  exact fun _ ha => ⟨Chg.refl _ _, _, ha, ⟨⟨fun h => absurd h (by decide), alNone (by decide)⟩, rfl⟩⟩
 ·
  intro u54 w55 hW56 hPr59 hp57 hal58
  have hz61 := hW56.size
  have hC60 := hC19.step1 hW56 (by omega)
  have hb62 : Blk w55 g12 #[.int .u64 0, .int .u64 0] 25 := hPr59 5 (.inl rfl)
  refine WR.store (t := 25) (o := 0) (v := .agg #[.int .u64 a0.In.Lo, .int .u64 a0.In.Hi]) hb62 (by kernel_rfl) #[.int .u64 a0.In.Lo, .int .u64 a0.In.Hi] (by kernel_rfl) ?_
  intro w63 hb64 hc65
  have hz67 := hc65.size
  have hC66 := hC60.step1 hc65 (by omega)
  refine WR.fin (by kernel_rfl) ?_
  exact fun _ ha => ⟨hc65, undef, ha, ⟨⟨fun h => absurd h (by decide), alNone (by decide)⟩, hb64⟩⟩
 intro u68 w69 hW70 hr71 _ _
 have hz75 := hW70.size
 have hC74 := hC19.step1 hW70 (by omega)
 have hp76 : Blk w69 g12 #[.int .u64 a0.In.Lo, .int .u64 a0.In.Hi] 25 := hr71 5 (by omega) (by kernel_rfl)
 refine WR.keep [2, 12] (F' := [(2, pt g12 0), (12, .bool (a0.Kind == (1 : Int)))]) (by kernel_rfl) ?_
 refine WR.batch 1 [(2, pt g12 0), (3, .bool (a0.Kind == (1 : Int)))] (by kernel_rfl) ?_
 refine WR.fin (by kernel_rfl) ?_
 refine go hK34 ?_
 refine CW.ret ?_
 exact retC [.agg #[.int .u64 a0.In.Lo, .int .u64 a0.In.Hi], .bool (a0.Kind == (1 : Int))] _ rfl ⟨resCell hp76 rfl (by kernel_rfl), rfl, trivial⟩ (⟨hC74, (congrArg (fun r : (TSpan × Bool) => (.tuple #[TSpan.v r.1, .bool r.2] : Value)) hs33).symm⟩)

def ref12_Within (a0 : TKnown) (a1 : TKnown)  : Bool := (letF (ref12_Right a0) fun x25 => (if ((!x25) || (!(ref12_Right a1))) then false else (if ((a1.Kind == (0 : Int)) || ((a0.Kind == a1.Kind) && ((a0.In.Lo == a1.In.Lo) && (a0.In.Hi == a1.In.Hi)))) then true else (if ((a0.Kind == (4 : Int)) && (a1.Kind == (1 : Int))) then ((a1.In.Lo == (0 : Int)) && (decide (a1.In.Hi ≥ (65535 : Int)))) else ((((a0.Kind == a1.Kind) && ((a0.Kind == (1 : Int)) || (a0.Kind == (2 : Int)))) && (decide (a1.In.Lo ≤ a0.In.Lo))) && (decide (a0.In.Hi ≤ a1.In.Hi)))))))

set_option maxRecDepth 100000 in
set_option maxHeartbeats 4000000 in
theorem ref12_Within_any (a0 : TKnown) (a1 : TKnown)   (w : World)  (_h_a0 : IU8 a0.Kind ∧ IU64 a0.In.Lo ∧ IU64 a0.In.Hi) (_h_a1 : IU8 a1.Kind ∧ IU64 a1.In.Lo ∧ IU64 a1.In.Hi)  : Calls Try.prog 45 #[.agg #[.int .u8 a0.Kind, .int .u64 a0.In.Lo, .int .u64 a0.In.Hi], .agg #[.int .u8 a1.Kind, .int .u64 a1.In.Lo, .int .u64 a1.In.Hi]] w (RetV w (.bool (ref12_Within a0 a1))) := by
 have hs := ref12_Within.eq_1 a0 a1
 refine calls_of_CW Try.func45 rfl (n := 72) Try.ntmps45 (by kernel_rfl) [0, 1] (F := [(0, .agg #[.int .u8 a0.Kind, .int .u64 a0.In.Lo, .int .u64 a0.In.Hi]), (1, .agg #[.int .u8 a1.Kind, .int .u64 a1.In.Lo, .int .u64 a1.In.Hi])]) (by kernel_rfl) ?_
 refine CW.seq fun K1 hK1 => ?_
 refine CW.region ?_
 refine WR.box (dst := some 2) (e := 56) (v := .agg #[.int .u8 a0.Kind, .int .u64 a0.In.Lo, .int .u64 a0.In.Hi]) (by kernel_rfl) #[.int .u8 a0.Kind, .int .u64 a0.In.Lo, .int .u64 a0.In.Hi] (by kernel_rfl) ?_
 intro g2 w3 hN4
 have hf6 : w.heap.size ≤ g2 := hN4.fresh
 have hfr8 := hN4.fresh
 have hc7 := hN4.chg
 have hz10 := hc7.size
 have hC9 := (Chg.refl [] w).pure hc7
 have hb5 := hN4.blk
 have hg11 := hb5.lt
 refine WR.box (dst := some 3) (e := 56) (v := .agg #[.int .u8 a1.Kind, .int .u64 a1.In.Lo, .int .u64 a1.In.Hi]) (by kernel_rfl) #[.int .u8 a1.Kind, .int .u64 a1.In.Lo, .int .u64 a1.In.Hi] (by kernel_rfl) ?_
 intro g12 w13 hN14
 have hf16 : w.heap.size ≤ g12 := Nat.le_trans hC9.size hN14.fresh
 have hfr18 := hN14.fresh
 have hc17 := hN14.chg
 have hz20 := hc17.size
 have hC19 := hC9.pure hc17
 have hb15 := hN14.blk
 have hg21 := hb15.lt
 refine WR.batch 1 [(2, pt g2 0), (3, pt g12 0)] (by kernel_rfl) ?_
 refine WR.fin (by kernel_rfl) ?_
 refine go hK1 ?_
 refine CW.seq fun K22 hK22 => ?_
 refine CW.seq fun K23 hK23 => ?_
 refine CW.region ?_
 have hb24 := hb5.pure hc17
 refine WR.load (dst := some 5) (t := 56) (o := 0) hb24 (by kernel_rfl) (.agg #[.int .u8 a0.Kind, .int .u64 a0.In.Lo, .int .u64 a0.In.Hi]) (by kernel_rfl) ?_
 obtain ⟨x25, hx26⟩ : ∃ x, ref12_Right a0 = x := ⟨_, rfl⟩
 have hs27 := letS hx26 hs
 refine WR.call (dst := some 6) (by kernel_rfl) (retE (g := (fun r : Bool => (.bool r : Value))) hx26 (ref12_Right_any a0 w13  ⟨(by omega), (by omega), (by omega)⟩ )) ?_
 rintro _ w28 hc29 rfl
 have hz31 := hc29.size
 have hC30 := hC19.pure hc29
 refine WR.batch 2 [(2, pt g2 0), (3, pt g12 0), (8, .bool (!x25))] (by kernel_rfl) ?_
 refine WR.mergeW 8 [(2, pt g2 0), (3, pt g12 0), (12, .bool ((!x25) || (!(ref12_Right a1))))] (fun w' => Chg [] w28 w') (fun Q' => ?_) ?_
 ·
  cases hg32 : (!x25)
  ·
   have hk34 := hg32
   replace hg32 : x25 = true := (bNotF hg32)
   intro hM33
   have hb35 := hb15.pure hc29
   refine WR.load (dst := some 9) (t := 56) (o := 0) hb35 (by kernel_rfl) (.agg #[.int .u8 a1.Kind, .int .u64 a1.In.Lo, .int .u64 a1.In.Hi]) (by kernel_rfl) ?_
   refine WR.call (dst := some 10) (by kernel_rfl) (ref12_Right_any a1 w28  ⟨(by omega), (by omega), (by omega)⟩ ) ?_
   rintro _ w36 hc37 rfl
   have hz39 := hc37.size
   have hC38 := hC30.pure hc37
   refine WR.batch 2 [(2, pt g2 0), (3, pt g12 0), (12, .bool (!(ref12_Right a1)))] (by kernel_rfl) ?_
   exact WR.keep [2, 3, 12] (by kernel_rfl) (hM33 _ ((Chg.refl [] w28).pure hc37))
  ·
   have hk40 := hg32
   replace hg32 : x25 = false := (bNotT hg32)
   intro hM33
   refine WR.batch 4 [(2, pt g2 0), (3, pt g12 0), (12, .bool true)] (by kernel_rfl) ?_
   exact WR.keep [2, 3, 12] (by kernel_rfl) (hM33 _ (Chg.refl [] w28))
 intro w41 hc42
 have hz44 := hc42.size
 have hC43 := hC30.pure hc42
 refine WR.fin (by kernel_rfl) ?_
 refine go hK23 ?_
 refine CW.cond (((!x25) || (!(ref12_Right a1)))) (by kernel_rfl) (fun ht45 => ?_) (fun ht45 => ?_)
 ·
  have hs46 := ifT ht45 hs27
  replace ht45 : (x25 = false) ∨ ((ref12_Right a1) = false) := (orMap (bOrT ht45) (fun h => (bNotT h)) (fun h => (bNotT h)))
  refine CW.seq fun K47 hK47 => ?_
  refine CW.region ?_
  refine WR.batch 1 [(4, .bool false)] (by kernel_rfl) ?_
  refine WR.fin (by kernel_rfl) ?_
  refine go hK47 ?_
  refine CW.ret ?_
  exact retV (.bool false) (by kernel_rfl) (⟨hC43, (congrArg (fun r : Bool => (.bool r : Value)) hs46).symm⟩)
 have hs48 := ifF ht45 hs27
 replace ht45 : (x25 = true) ∧ ((ref12_Right a1) = true) := ⟨(bNotF (bOrF ht45).1), (bNotF (bOrF ht45).2)⟩
 refine CW.skip ?_
 refine go hK22 ?_
 refine CW.seq fun K49 hK49 => ?_
 refine CW.seq fun K50 hK50 => ?_
 refine CW.region ?_
 refine WR.batch 1 [(2, pt g2 0), (3, pt g12 0), (13, pt g12 0)] (by kernel_rfl) ?_
 have hb51 := (hb15.pure hc29).pure hc42
 refine WR.load (dst := some 14) (t := 54) (o := 0) hb51 (by kernel_rfl) (.int .u8 a1.Kind) (by kernel_rfl) ?_
 refine WR.batch 2 [(2, pt g2 0), (3, pt g12 0), (16, .bool (a1.Kind == (0 : Int)))] (by kernel_rfl) ?_
 refine WR.mergeW 8 [(2, pt g2 0), (3, pt g12 0), (20, .bool ((a1.Kind == (0 : Int)) || ((a0.Kind == a1.Kind) && ((a0.In.Lo == a1.In.Lo) && (a0.In.Hi == a1.In.Hi)))))] (fun w' => Chg [] w41 w') (fun Q' => ?_) ?_
 ·
  cases hg52 : (a1.Kind == (0 : Int))
  ·
   have hk54 := hg52
   replace hg52 : a1.Kind ≠ (0 : Int) := (bEqF hg52)
   intro hM53
   have hb55 := (hb24.pure hc29).pure hc42
   refine WR.load (dst := some 17) (t := 56) (o := 0) hb55 (by kernel_rfl) (.agg #[.int .u8 a0.Kind, .int .u64 a0.In.Lo, .int .u64 a0.In.Hi]) (by kernel_rfl) ?_
   refine WR.load (dst := some 18) (t := 56) (o := 0) hb51 (by kernel_rfl) (.agg #[.int .u8 a1.Kind, .int .u64 a1.In.Lo, .int .u64 a1.In.Hi]) (by kernel_rfl) ?_
   refine WR.valR (dst := some 19) (v := .bool ((a0.Kind == a1.Kind) && ((a0.In.Lo == a1.In.Lo) && (a0.In.Hi == a1.In.Hi)))) (w' := w41) (run_eqS (t := 56) (xs := #[.int .u8 a0.Kind, .int .u64 a0.In.Lo, .int .u64 a0.In.Hi]) (ys := #[.int .u8 a1.Kind, .int .u64 a1.In.Lo, .int .u64 a1.In.Hi]) (neg := false) (b := ((a0.Kind == a1.Kind) && ((a0.In.Lo == a1.In.Lo) && (a0.In.Hi == a1.In.Hi)))) (by kernel_rfl) (by kernel_rfl) (by kernel_rfl) w41) ?_
   refine WR.batch 1 [(2, pt g2 0), (3, pt g12 0), (20, .bool ((a0.Kind == a1.Kind) && ((a0.In.Lo == a1.In.Lo) && (a0.In.Hi == a1.In.Hi))))] (by kernel_rfl) ?_
   exact WR.keep [2, 3, 20] (by kernel_rfl) (hM53 _ (Chg.refl [] w41))
  ·
   have hk56 := hg52
   replace hg52 : a1.Kind = (0 : Int) := (bEqT hg52)
   intro hM53
   refine WR.batch 4 [(2, pt g2 0), (3, pt g12 0), (20, .bool true)] (by kernel_rfl) ?_
   exact WR.keep [2, 3, 20] (by kernel_rfl) (hM53 _ (Chg.refl [] w41))
 intro w57 hc58
 have hz60 := hc58.size
 have hC59 := hC43.pure hc58
 refine WR.fin (by kernel_rfl) ?_
 refine go hK50 ?_
 refine CW.cond (((a1.Kind == (0 : Int)) || ((a0.Kind == a1.Kind) && ((a0.In.Lo == a1.In.Lo) && (a0.In.Hi == a1.In.Hi))))) (by kernel_rfl) (fun ht61 => ?_) (fun ht61 => ?_)
 ·
  have hs62 := ifT ht61 hs48
  replace ht61 : (a1.Kind = (0 : Int)) ∨ ((a0.Kind = a1.Kind) ∧ ((a0.In.Lo = a1.In.Lo) ∧ (a0.In.Hi = a1.In.Hi))) := (orMap (bOrT ht61) (fun h => (bEqT h)) (fun h => ⟨(bEqT (bAndT h).1), ⟨(bEqT (bAndT (bAndT h).2).1), (bEqT (bAndT (bAndT h).2).2)⟩⟩))
  refine CW.seq fun K63 hK63 => ?_
  refine CW.region ?_
  refine WR.batch 1 [(4, .bool true)] (by kernel_rfl) ?_
  refine WR.fin (by kernel_rfl) ?_
  refine go hK63 ?_
  refine CW.ret ?_
  exact retV (.bool true) (by kernel_rfl) (⟨hC59, (congrArg (fun r : Bool => (.bool r : Value)) hs62).symm⟩)
 have hs64 := ifF ht61 hs48
 replace ht61 : (a1.Kind ≠ (0 : Int)) ∧ ((a0.Kind ≠ a1.Kind) ∨ ((a0.In.Lo ≠ a1.In.Lo) ∨ (a0.In.Hi ≠ a1.In.Hi))) := ⟨(bEqF (bOrF ht61).1), (orMap (bAndF (bOrF ht61).2) (fun h => (bEqF h)) (fun h => (orMap (bAndF h) (fun h => (bEqF h)) (fun h => (bEqF h)))))⟩
 refine CW.skip ?_
 refine go hK49 ?_
 refine CW.seq fun K65 hK65 => ?_
 refine CW.seq fun K66 hK66 => ?_
 refine CW.region ?_
 refine WR.batch 1 [(2, pt g2 0), (3, pt g12 0), (21, pt g2 0)] (by kernel_rfl) ?_
 have hb67 := ((hb24.pure hc29).pure hc42).pure hc58
 refine WR.load (dst := some 22) (t := 54) (o := 0) hb67 (by kernel_rfl) (.int .u8 a0.Kind) (by kernel_rfl) ?_
 refine WR.batch 2 [(2, pt g2 0), (3, pt g12 0), (24, .bool (a0.Kind == (4 : Int)))] (by kernel_rfl) ?_
 refine WR.mergeW 8 [(2, pt g2 0), (3, pt g12 0), (28, .bool ((a0.Kind == (4 : Int)) && (a1.Kind == (1 : Int))))] (fun w' => Chg [] w57 w') (fun Q' => ?_) ?_
 ·
  cases hg68 : (a0.Kind == (4 : Int))
  ·
   have hk70 := hg68
   replace hg68 : a0.Kind ≠ (4 : Int) := (bEqF hg68)
   intro hM69
   refine WR.batch 4 [(2, pt g2 0), (3, pt g12 0), (28, .bool false)] (by kernel_rfl) ?_
   exact WR.keep [2, 3, 28] (by kernel_rfl) (hM69 _ (Chg.refl [] w57))
  ·
   have hk71 := hg68
   replace hg68 : a0.Kind = (4 : Int) := (bEqT hg68)
   intro hM69
   refine WR.batch 1 [(2, pt g2 0), (3, pt g12 0), (24, .bool true), (25, pt g12 0)] (by kernel_rfl) ?_
   have hb72 := hb51.pure hc58
   refine WR.load (dst := some 26) (t := 54) (o := 0) hb72 (by kernel_rfl) (.int .u8 a1.Kind) (by kernel_rfl) ?_
   refine WR.batch 2 [(2, pt g2 0), (3, pt g12 0), (28, .bool (a1.Kind == (1 : Int)))] (by kernel_rfl) ?_
   exact WR.keep [2, 3, 28] (by kernel_rfl) (hM69 _ (Chg.refl [] w57))
 intro w73 hc74
 have hz76 := hc74.size
 have hC75 := hC59.pure hc74
 refine WR.fin (by kernel_rfl) ?_
 refine go hK66 ?_
 refine CW.cond (((a0.Kind == (4 : Int)) && (a1.Kind == (1 : Int)))) (by kernel_rfl) (fun ht77 => ?_) (fun ht77 => ?_)
 ·
  have hs78 := ifT ht77 hs64
  replace ht77 : (a0.Kind = (4 : Int)) ∧ (a1.Kind = (1 : Int)) := ⟨(bEqT (bAndT ht77).1), (bEqT (bAndT ht77).2)⟩
  refine CW.seq fun K79 hK79 => ?_
  refine CW.region ?_
  refine WR.batch 2 [(3, pt g12 0), (30, pt g12 1)] (by kernel_rfl) ?_
  have hb80 := (hb51.pure hc58).pure hc74
  refine WR.load (dst := some 31) (t := 23) (o := 1) hb80 (by kernel_rfl) (.int .u64 a1.In.Lo) (by kernel_rfl) ?_
  refine WR.batch 2 [(3, pt g12 0), (33, .bool (a1.In.Lo == (0 : Int)))] (by kernel_rfl) ?_
  refine WR.mergeW 10 [(38, .bool ((a1.In.Lo == (0 : Int)) && (decide (a1.In.Hi ≥ (65535 : Int)))))] (fun w' => Chg [] w73 w') (fun Q' => ?_) ?_
  ·
   cases hg81 : (a1.In.Lo == (0 : Int))
   ·
    have hk83 := hg81
    replace hg81 : a1.In.Lo ≠ (0 : Int) := (bEqF hg81)
    intro hM82
    refine WR.batch 5 [(38, .bool false)] (by kernel_rfl) ?_
    exact WR.keep [38] (by kernel_rfl) (hM82 _ (Chg.refl [] w73))
   ·
    have hk84 := hg81
    replace hg81 : a1.In.Lo = (0 : Int) := (bEqT hg81)
    intro hM82
    refine WR.batch 2 [(33, .bool true), (35, pt g12 2)] (by kernel_rfl) ?_
    refine WR.load (dst := some 36) (t := 23) (o := 2) hb80 (by kernel_rfl) (.int .u64 a1.In.Hi) (by kernel_rfl) ?_
    refine WR.batch 2 [(38, .bool (decide (a1.In.Hi ≥ (65535 : Int))))] (by kernel_rfl) ?_
    exact WR.keep [38] (by kernel_rfl) (hM82 _ (Chg.refl [] w73))
  intro w85 hc86
  have hz88 := hc86.size
  have hC87 := hC75.pure hc86
  refine WR.batch 1 [(4, .bool ((a1.In.Lo == (0 : Int)) && (decide (a1.In.Hi ≥ (65535 : Int)))))] (by kernel_rfl) ?_
  refine WR.fin (by kernel_rfl) ?_
  refine go hK79 ?_
  refine CW.ret ?_
  exact retV (.bool ((a1.In.Lo == (0 : Int)) && (decide (a1.In.Hi ≥ (65535 : Int))))) (by kernel_rfl) (⟨hC87, (congrArg (fun r : Bool => (.bool r : Value)) hs78).symm⟩)
 have hs89 := ifF ht77 hs64
 replace ht77 : (a0.Kind ≠ (4 : Int)) ∨ (a1.Kind ≠ (1 : Int)) := (orMap (bAndF ht77) (fun h => (bEqF h)) (fun h => (bEqF h)))
 refine CW.skip ?_
 refine go hK65 ?_
 refine CW.seq fun K90 hK90 => ?_
 refine CW.region ?_
 refine WR.batch 1 [(2, pt g2 0), (3, pt g12 0), (39, pt g2 0)] (by kernel_rfl) ?_
 have hb91 := hb67.pure hc74
 refine WR.load (dst := some 40) (t := 54) (o := 0) hb91 (by kernel_rfl) (.int .u8 a0.Kind) (by kernel_rfl) ?_
 refine WR.batch 1 [(2, pt g2 0), (3, pt g12 0), (40, .int .u8 a0.Kind), (41, pt g12 0)] (by kernel_rfl) ?_
 have hb92 := (hb51.pure hc58).pure hc74
 refine WR.load (dst := some 42) (t := 54) (o := 0) hb92 (by kernel_rfl) (.int .u8 a1.Kind) (by kernel_rfl) ?_
 refine WR.batch 2 [(2, pt g2 0), (3, pt g12 0), (44, .bool (a0.Kind == a1.Kind))] (by kernel_rfl) ?_
 refine WR.mergeW 15 [(2, pt g2 0), (3, pt g12 0), (53, .bool ((a0.Kind == a1.Kind) && ((a0.Kind == (1 : Int)) || (a0.Kind == (2 : Int)))))] (fun w' => Chg [] w73 w') (fun Q' => ?_) ?_
 ·
  cases hg93 : (a0.Kind == a1.Kind)
  ·
   have hk95 := hg93
   replace hg93 : a0.Kind ≠ a1.Kind := (bEqF hg93)
   intro hM94
   refine WR.batch 9 [(2, pt g2 0), (3, pt g12 0), (53, .bool false)] (by kernel_rfl) ?_
   exact WR.keep [2, 3, 53] (by kernel_rfl) (hM94 _ (Chg.refl [] w73))
  ·
   have hk96 := hg93
   replace hg93 : a0.Kind = a1.Kind := (bEqT hg93)
   intro hM94
   refine WR.batch 1 [(2, pt g2 0), (3, pt g12 0), (44, .bool true), (45, pt g2 0)] (by kernel_rfl) ?_
   refine WR.load (dst := some 46) (t := 54) (o := 0) hb91 (by kernel_rfl) (.int .u8 a0.Kind) (by kernel_rfl) ?_
   refine WR.batch 2 [(2, pt g2 0), (3, pt g12 0), (44, .bool true), (48, .bool (a0.Kind == (1 : Int)))] (by kernel_rfl) ?_
   refine WR.mergeW 14 [(2, pt g2 0), (3, pt g12 0), (44, .bool true), (52, .bool ((a0.Kind == (1 : Int)) || (a0.Kind == (2 : Int))))] (fun w' => Chg [] w73 w') (fun Q' => ?_) ?_
   ·
    cases hg97 : (a0.Kind == (1 : Int))
    ·
     have hk99 := hg97
     replace hg97 : a0.Kind ≠ (1 : Int) := (bEqF hg97)
     intro hM98
     refine WR.batch 1 [(2, pt g2 0), (3, pt g12 0), (44, .bool true), (48, .bool false), (49, pt g2 0)] (by kernel_rfl) ?_
     refine WR.load (dst := some 50) (t := 54) (o := 0) hb91 (by kernel_rfl) (.int .u8 a0.Kind) (by kernel_rfl) ?_
     refine WR.batch 2 [(2, pt g2 0), (3, pt g12 0), (44, .bool true), (52, .bool (a0.Kind == (2 : Int)))] (by kernel_rfl) ?_
     exact WR.keep [2, 3, 44, 52] (by kernel_rfl) (hM98 _ (Chg.refl [] w73))
    ·
     have hk100 := hg97
     replace hg97 : a0.Kind = (1 : Int) := (bEqT hg97)
     intro hM98
     refine WR.batch 4 [(2, pt g2 0), (3, pt g12 0), (44, .bool true), (52, .bool true)] (by kernel_rfl) ?_
     exact WR.keep [2, 3, 44, 52] (by kernel_rfl) (hM98 _ (Chg.refl [] w73))
   intro w101 hc102
   have hz104 := hc102.size
   have hC103 := hC75.pure hc102
   refine WR.batch 1 [(2, pt g2 0), (3, pt g12 0), (53, .bool ((a0.Kind == (1 : Int)) || (a0.Kind == (2 : Int))))] (by kernel_rfl) ?_
   exact WR.keep [2, 3, 53] (by kernel_rfl) (hM94 _ ((Chg.refl [] w73).pure hc102))
 intro w105 hc106
 have hz108 := hc106.size
 have hC107 := hC75.pure hc106
 refine WR.batch 1 [(2, pt g2 0), (3, pt g12 0), (54, .bool ((a0.Kind == a1.Kind) && ((a0.Kind == (1 : Int)) || (a0.Kind == (2 : Int)))))] (by kernel_rfl) ?_
 refine WR.mergeW 24 [(2, pt g2 0), (3, pt g12 0), (62, .bool (((a0.Kind == a1.Kind) && ((a0.Kind == (1 : Int)) || (a0.Kind == (2 : Int)))) && (decide (a1.In.Lo ≤ a0.In.Lo))))] (fun w' => Chg [] w105 w') (fun Q' => ?_) ?_
 ·
  cases hg109 : ((a0.Kind == a1.Kind) && ((a0.Kind == (1 : Int)) || (a0.Kind == (2 : Int))))
  ·
   have hk111 := hg109
   replace hg109 : (a0.Kind ≠ a1.Kind) ∨ ((a0.Kind ≠ (1 : Int)) ∧ (a0.Kind ≠ (2 : Int))) := (orMap (bAndF hg109) (fun h => (bEqF h)) (fun h => ⟨(bEqF (bOrF h).1), (bEqF (bOrF h).2)⟩))
   intro hM110
   refine WR.batch 8 [(2, pt g2 0), (3, pt g12 0), (62, .bool false)] (by kernel_rfl) ?_
   exact WR.keep [2, 3, 62] (by kernel_rfl) (hM110 _ (Chg.refl [] w105))
  ·
   have hk112 := hg109
   replace hg109 : (a0.Kind = a1.Kind) ∧ ((a0.Kind = (1 : Int)) ∨ (a0.Kind = (2 : Int))) := ⟨(bEqT (bAndT hg109).1), (orMap (bOrT (bAndT hg109).2) (fun h => (bEqT h)) (fun h => (bEqT h)))⟩
   intro hM110
   refine WR.batch 2 [(2, pt g2 0), (3, pt g12 0), (54, .bool true), (56, pt g12 1)] (by kernel_rfl) ?_
   have hb113 := hb92.pure hc106
   refine WR.load (dst := some 57) (t := 23) (o := 1) hb113 (by kernel_rfl) (.int .u64 a1.In.Lo) (by kernel_rfl) ?_
   refine WR.batch 2 [(2, pt g2 0), (3, pt g12 0), (54, .bool true), (57, .int .u64 a1.In.Lo), (59, pt g2 1)] (by kernel_rfl) ?_
   have hb114 := hb91.pure hc106
   refine WR.load (dst := some 60) (t := 23) (o := 1) hb114 (by kernel_rfl) (.int .u64 a0.In.Lo) (by kernel_rfl) ?_
   refine WR.batch 2 [(2, pt g2 0), (3, pt g12 0), (62, .bool (decide (a1.In.Lo ≤ a0.In.Lo)))] (by kernel_rfl) ?_
   exact WR.keep [2, 3, 62] (by kernel_rfl) (hM110 _ (Chg.refl [] w105))
 intro w115 hc116
 have hz118 := hc116.size
 have hC117 := hC107.pure hc116
 refine WR.batch 1 [(2, pt g2 0), (3, pt g12 0), (63, .bool (((a0.Kind == a1.Kind) && ((a0.Kind == (1 : Int)) || (a0.Kind == (2 : Int)))) && (decide (a1.In.Lo ≤ a0.In.Lo))))] (by kernel_rfl) ?_
 refine WR.mergeW 33 [(71, .bool ((((a0.Kind == a1.Kind) && ((a0.Kind == (1 : Int)) || (a0.Kind == (2 : Int)))) && (decide (a1.In.Lo ≤ a0.In.Lo))) && (decide (a0.In.Hi ≤ a1.In.Hi))))] (fun w' => Chg [] w115 w') (fun Q' => ?_) ?_
 ·
  cases hg119 : (((a0.Kind == a1.Kind) && ((a0.Kind == (1 : Int)) || (a0.Kind == (2 : Int)))) && (decide (a1.In.Lo ≤ a0.In.Lo)))
  ·
   have hk121 := hg119
   replace hg119 : ((a0.Kind ≠ a1.Kind) ∨ ((a0.Kind ≠ (1 : Int)) ∧ (a0.Kind ≠ (2 : Int)))) ∨ (¬ (a1.In.Lo ≤ a0.In.Lo)) := (orMap (bAndF hg119) (fun h => (orMap (bAndF h) (fun h => (bEqF h)) (fun h => ⟨(bEqF (bOrF h).1), (bEqF (bOrF h).2)⟩))) (fun h => (of_decide_eq_false h)))
   intro hM120
   refine WR.batch 8 [(71, .bool false)] (by kernel_rfl) ?_
   exact WR.keep [71] (by kernel_rfl) (hM120 _ (Chg.refl [] w115))
  ·
   have hk122 := hg119
   replace hg119 : ((a0.Kind = a1.Kind) ∧ ((a0.Kind = (1 : Int)) ∨ (a0.Kind = (2 : Int)))) ∧ (a1.In.Lo ≤ a0.In.Lo) := ⟨⟨(bEqT (bAndT (bAndT hg119).1).1), (orMap (bOrT (bAndT (bAndT hg119).1).2) (fun h => (bEqT h)) (fun h => (bEqT h)))⟩, (of_decide_eq_true (bAndT hg119).2)⟩
   intro hM120
   refine WR.batch 2 [(3, pt g12 0), (63, .bool true), (65, pt g2 2)] (by kernel_rfl) ?_
   have hb123 := (hb91.pure hc106).pure hc116
   refine WR.load (dst := some 66) (t := 23) (o := 2) hb123 (by kernel_rfl) (.int .u64 a0.In.Hi) (by kernel_rfl) ?_
   refine WR.batch 2 [(63, .bool true), (66, .int .u64 a0.In.Hi), (68, pt g12 2)] (by kernel_rfl) ?_
   have hb124 := (hb92.pure hc106).pure hc116
   refine WR.load (dst := some 69) (t := 23) (o := 2) hb124 (by kernel_rfl) (.int .u64 a1.In.Hi) (by kernel_rfl) ?_
   refine WR.batch 2 [(71, .bool (decide (a0.In.Hi ≤ a1.In.Hi)))] (by kernel_rfl) ?_
   exact WR.keep [71] (by kernel_rfl) (hM120 _ (Chg.refl [] w115))
 intro w125 hc126
 have hz128 := hc126.size
 have hC127 := hC117.pure hc126
 refine WR.batch 1 [(4, .bool ((((a0.Kind == a1.Kind) && ((a0.Kind == (1 : Int)) || (a0.Kind == (2 : Int)))) && (decide (a1.In.Lo ≤ a0.In.Lo))) && (decide (a0.In.Hi ≤ a1.In.Hi))))] (by kernel_rfl) ?_
 refine WR.fin (by kernel_rfl) ?_
 refine go hK90 ?_
 refine CW.ret ?_
 exact retV (.bool ((((a0.Kind == a1.Kind) && ((a0.Kind == (1 : Int)) || (a0.Kind == (2 : Int)))) && (decide (a1.In.Lo ≤ a0.In.Lo))) && (decide (a0.In.Hi ≤ a1.In.Hi)))) (by kernel_rfl) (⟨hC127, (congrArg (fun r : Bool => (.bool r : Value)) hs89).symm⟩)

def ref12_Join (a0 : TKnown) (a1 : TKnown)  : TKnown := (letF (ref12_Right a0) fun x35 => (if ((!x35) || (!(ref12_Right a1))) then (⟨(0 : Int), (⟨(0 : Int), (0 : Int)⟩ : TSpan)⟩ : TKnown) else (if ((a0.Kind == a1.Kind) && ((a0.In.Lo == a1.In.Lo) && (a0.In.Hi == a1.In.Hi))) then a0 else (letF (ref12_Number a0) fun x80 => (letF (ref12_Number a1) fun x105 => (if (x80.2 && x105.2) then (letF (ref11_Join x80.1 x105.1) fun x134 => (⟨(1 : Int), x134⟩ : TKnown)) else (if ((a0.Kind == (2 : Int)) && (a1.Kind == (2 : Int))) then (letF (ref11_Join a0.In a1.In) fun x166 => (⟨(2 : Int), x166⟩ : TKnown)) else (⟨(0 : Int), (⟨(0 : Int), (0 : Int)⟩ : TSpan)⟩ : TKnown))))))))

theorem ref12_Join_ok (a0 : TKnown) (a1 : TKnown)  (_h_a0 : IU8 a0.Kind ∧ IU64 a0.In.Lo ∧ IU64 a0.In.Hi) (_h_a1 : IU8 a1.Kind ∧ IU64 a1.In.Lo ∧ IU64 a1.In.Hi)  : IU8 (ref12_Join a0 a1).Kind ∧ IU64 (ref12_Join a0 a1).In.Lo ∧ IU64 (ref12_Join a0 a1).In.Hi := by
 rw [ref12_Join.eq_1]
 refine letR (p := fun r : TKnown => IU8 r.Kind ∧ IU64 r.In.Lo ∧ IU64 r.In.Hi) fun x35 _ => ?_
 refine iteR (p := fun r : TKnown => IU8 r.Kind ∧ IU64 r.In.Lo ∧ IU64 r.In.Hi) (fun hi1001 => ?_) (fun hi1001 => ?_)
 ·
  replace hi1001 : (x35 = false) ∨ ((ref12_Right a1) = false) := (orMap (bOrT hi1001) (fun h => (bNotT h)) (fun h => (bNotT h)))
  exact (by exact (show IU8 (0 : Int) ∧ IU64 (0 : Int) ∧ IU64 (0 : Int) from ⟨(by omega), (by omega), (by omega)⟩))
 replace hi1001 : (x35 = true) ∧ ((ref12_Right a1) = true) := ⟨(bNotF (bOrF hi1001).1), (bNotF (bOrF hi1001).2)⟩
 refine iteR (p := fun r : TKnown => IU8 r.Kind ∧ IU64 r.In.Lo ∧ IU64 r.In.Hi) (fun hi1002 => ?_) (fun hi1002 => ?_)
 ·
  replace hi1002 : (a0.Kind = a1.Kind) ∧ ((a0.In.Lo = a1.In.Lo) ∧ (a0.In.Hi = a1.In.Hi)) := ⟨(bEqT (bAndT hi1002).1), ⟨(bEqT (bAndT (bAndT hi1002).2).1), (bEqT (bAndT (bAndT hi1002).2).2)⟩⟩
  exact (by exact (show IU8 a0.Kind ∧ IU64 a0.In.Lo ∧ IU64 a0.In.Hi from ⟨(by omega), (by omega), (by omega)⟩))
 replace hi1002 : (a0.Kind ≠ a1.Kind) ∨ ((a0.In.Lo ≠ a1.In.Lo) ∨ (a0.In.Hi ≠ a1.In.Hi)) := (orMap (bAndF hi1002) (fun h => (bEqF h)) (fun h => (orMap (bAndF h) (fun h => (bEqF h)) (fun h => (bEqF h)))))
 refine letR (p := fun r : TKnown => IU8 r.Kind ∧ IU64 r.In.Lo ∧ IU64 r.In.Hi) fun x80 hx81 => ?_
 have hx82 : IU64 x80.1.Lo ∧ IU64 x80.1.Hi := by rw [← hx81]; exact ref12_Number_ok a0 ⟨(by omega), (by omega), (by omega)⟩ 
 refine letR (p := fun r : TKnown => IU8 r.Kind ∧ IU64 r.In.Lo ∧ IU64 r.In.Hi) fun x105 hx106 => ?_
 have hx107 : IU64 x105.1.Lo ∧ IU64 x105.1.Hi := by rw [← hx106]; exact ref12_Number_ok a1 ⟨(by omega), (by omega), (by omega)⟩ 
 refine iteR (p := fun r : TKnown => IU8 r.Kind ∧ IU64 r.In.Lo ∧ IU64 r.In.Hi) (fun hi1003 => ?_) (fun hi1003 => ?_)
 ·
  replace hi1003 : (x80.2 = true) ∧ (x105.2 = true) := ⟨(bAndT hi1003).1, (bAndT hi1003).2⟩
  refine letR (p := fun r : TKnown => IU8 r.Kind ∧ IU64 r.In.Lo ∧ IU64 r.In.Hi) fun x134 hx135 => ?_
  have hx136 : IU64 x134.Lo ∧ IU64 x134.Hi := by rw [← hx135]; exact ref11_Join_ok x80.1 x105.1 ⟨(by omega), (by omega)⟩ ⟨(by omega), (by omega)⟩ 
  exact (by exact (show IU8 (1 : Int) ∧ IU64 x134.Lo ∧ IU64 x134.Hi from ⟨(by omega), (by omega), (by omega)⟩))
 replace hi1003 : (x80.2 = false) ∨ (x105.2 = false) := (orMap (bAndF hi1003) (fun h => h) (fun h => h))
 refine iteR (p := fun r : TKnown => IU8 r.Kind ∧ IU64 r.In.Lo ∧ IU64 r.In.Hi) (fun hi1004 => ?_) (fun hi1004 => ?_)
 ·
  replace hi1004 : (a0.Kind = (2 : Int)) ∧ (a1.Kind = (2 : Int)) := ⟨(bEqT (bAndT hi1004).1), (bEqT (bAndT hi1004).2)⟩
  refine letR (p := fun r : TKnown => IU8 r.Kind ∧ IU64 r.In.Lo ∧ IU64 r.In.Hi) fun x166 hx167 => ?_
  have hx168 : IU64 x166.Lo ∧ IU64 x166.Hi := by rw [← hx167]; exact ref11_Join_ok a0.In a1.In ⟨(by omega), (by omega)⟩ ⟨(by omega), (by omega)⟩ 
  exact (by exact (show IU8 (2 : Int) ∧ IU64 x166.Lo ∧ IU64 x166.Hi from ⟨(by omega), (by omega), (by omega)⟩))
 replace hi1004 : (a0.Kind ≠ (2 : Int)) ∨ (a1.Kind ≠ (2 : Int)) := (orMap (bAndF hi1004) (fun h => (bEqF h)) (fun h => (bEqF h)))
 exact (by exact (show IU8 (0 : Int) ∧ IU64 (0 : Int) ∧ IU64 (0 : Int) from ⟨(by omega), (by omega), (by omega)⟩))

set_option maxRecDepth 100000 in
set_option maxHeartbeats 4000000 in
theorem ref12_Join_any (a0 : TKnown) (a1 : TKnown)   (w : World)  (_h_a0 : IU8 a0.Kind ∧ IU64 a0.In.Lo ∧ IU64 a0.In.Hi) (_h_a1 : IU8 a1.Kind ∧ IU64 a1.In.Lo ∧ IU64 a1.In.Hi)  : Calls Try.prog 47 #[.agg #[.int .u8 a0.Kind, .int .u64 a0.In.Lo, .int .u64 a0.In.Hi], .agg #[.int .u8 a1.Kind, .int .u64 a1.In.Lo, .int .u64 a1.In.Hi]] w (RetV w (TKnown.v (ref12_Join a0 a1))) := by
 have hs := ref12_Join.eq_1 a0 a1
 refine calls_of_CW Try.func47 rfl (n := 55) Try.ntmps47 (by kernel_rfl) [0, 1] (F := [(0, .agg #[.int .u8 a0.Kind, .int .u64 a0.In.Lo, .int .u64 a0.In.Hi]), (1, .agg #[.int .u8 a1.Kind, .int .u64 a1.In.Lo, .int .u64 a1.In.Hi])]) (by kernel_rfl) ?_
 refine CW.seq fun K1 hK1 => ?_
 refine CW.region ?_
 refine WR.box (dst := some 2) (e := 56) (v := .agg #[.int .u8 a0.Kind, .int .u64 a0.In.Lo, .int .u64 a0.In.Hi]) (by kernel_rfl) #[.int .u8 a0.Kind, .int .u64 a0.In.Lo, .int .u64 a0.In.Hi] (by kernel_rfl) ?_
 intro g2 w3 hN4
 have hf6 : w.heap.size ≤ g2 := hN4.fresh
 have hfr8 := hN4.fresh
 have hc7 := hN4.chg
 have hz10 := hc7.size
 have hC9 := (Chg.refl [] w).pure hc7
 have hb5 := hN4.blk
 have hg11 := hb5.lt
 refine WR.box (dst := some 3) (e := 56) (v := .agg #[.int .u8 a1.Kind, .int .u64 a1.In.Lo, .int .u64 a1.In.Hi]) (by kernel_rfl) #[.int .u8 a1.Kind, .int .u64 a1.In.Lo, .int .u64 a1.In.Hi] (by kernel_rfl) ?_
 intro g12 w13 hN14
 have hf16 : w.heap.size ≤ g12 := Nat.le_trans hC9.size hN14.fresh
 have hfr18 := hN14.fresh
 have hc17 := hN14.chg
 have hz20 := hc17.size
 have hC19 := hC9.pure hc17
 have hb15 := hN14.blk
 have hg21 := hb15.lt
 refine WR.alloc (dst := some 4) (e := 56) (by kernel_rfl) #[.int .u8 0, .int .u64 0, .int .u64 0] (by kernel_rfl) ?_
 intro g22 w23 hN24
 have hf26 : w.heap.size ≤ g22 := Nat.le_trans hC19.size hN24.fresh
 have hfr28 := hN24.fresh
 have hc27 := hN24.chg
 have hz30 := hc27.size
 have hC29 := hC19.pure hc27
 have hb25 := hN24.blk
 have hg31 := hb25.lt
 refine WR.fin (by kernel_rfl) ?_
 refine go hK1 ?_
 refine CW.seq fun K32 hK32 => ?_
 refine CW.seq fun K33 hK33 => ?_
 refine CW.region ?_
 have hb34 := (hb5.pure hc17).pure hc27
 refine WR.load (dst := some 9) (t := 56) (o := 0) hb34 (by kernel_rfl) (.agg #[.int .u8 a0.Kind, .int .u64 a0.In.Lo, .int .u64 a0.In.Hi]) (by kernel_rfl) ?_
 obtain ⟨x35, hx36⟩ : ∃ x, ref12_Right a0 = x := ⟨_, rfl⟩
 have hs37 := letS hx36 hs
 refine WR.call (dst := some 10) (by kernel_rfl) (retE (g := (fun r : Bool => (.bool r : Value))) hx36 (ref12_Right_any a0 w23  ⟨(by omega), (by omega), (by omega)⟩ )) ?_
 rintro _ w38 hc39 rfl
 have hz41 := hc39.size
 have hC40 := hC29.pure hc39
 refine WR.batch 2 [(2, pt g2 0), (3, pt g12 0), (4, pt g22 0), (12, .bool (!x35))] (by kernel_rfl) ?_
 refine WR.mergeW 8 [(2, pt g2 0), (3, pt g12 0), (4, pt g22 0), (16, .bool ((!x35) || (!(ref12_Right a1))))] (fun w' => Chg [] w38 w') (fun Q' => ?_) ?_
 ·
  cases hg42 : (!x35)
  ·
   have hk44 := hg42
   replace hg42 : x35 = true := (bNotF hg42)
   intro hM43
   have hb45 := (hb15.pure hc27).pure hc39
   refine WR.load (dst := some 13) (t := 56) (o := 0) hb45 (by kernel_rfl) (.agg #[.int .u8 a1.Kind, .int .u64 a1.In.Lo, .int .u64 a1.In.Hi]) (by kernel_rfl) ?_
   refine WR.call (dst := some 14) (by kernel_rfl) (ref12_Right_any a1 w38  ⟨(by omega), (by omega), (by omega)⟩ ) ?_
   rintro _ w46 hc47 rfl
   have hz49 := hc47.size
   have hC48 := hC40.pure hc47
   refine WR.batch 2 [(2, pt g2 0), (3, pt g12 0), (4, pt g22 0), (16, .bool (!(ref12_Right a1)))] (by kernel_rfl) ?_
   exact WR.keep [2, 3, 4, 16] (by kernel_rfl) (hM43 _ ((Chg.refl [] w38).pure hc47))
  ·
   have hk50 := hg42
   replace hg42 : x35 = false := (bNotT hg42)
   intro hM43
   refine WR.batch 4 [(2, pt g2 0), (3, pt g12 0), (4, pt g22 0), (16, .bool true)] (by kernel_rfl) ?_
   exact WR.keep [2, 3, 4, 16] (by kernel_rfl) (hM43 _ (Chg.refl [] w38))
 intro w51 hc52
 have hz54 := hc52.size
 have hC53 := hC40.pure hc52
 refine WR.fin (by kernel_rfl) ?_
 refine go hK33 ?_
 refine CW.cond (((!x35) || (!(ref12_Right a1)))) (by kernel_rfl) (fun ht55 => ?_) (fun ht55 => ?_)
 ·
  have hs56 := ifT ht55 hs37
  replace ht55 : (x35 = false) ∨ ((ref12_Right a1) = false) := (orMap (bOrT ht55) (fun h => (bNotT h)) (fun h => (bNotT h)))
  refine CW.seq fun K57 hK57 => ?_
  refine CW.region ?_
  refine WR.batch 1 [(4, pt g22 0), (17, .agg #[.int .u8 0, .int .u64 0, .int .u64 0])] (by kernel_rfl) ?_
  have hb61 := (hb25.pure hc39).pure hc52
  refine WR.store (t := 56) (o := 0) (v := .agg #[.int .u8 0, .int .u64 0, .int .u64 0]) hb61 (by kernel_rfl) #[.int .u8 0, .int .u64 0, .int .u64 0] (by kernel_rfl) ?_
  intro w58 hb59 hc60
  have hz63 := hc60.size
  have hC62 := hC53.step1 hc60 (by omega)
  refine WR.fin (by kernel_rfl) ?_
  refine go hK57 ?_
  refine CW.ret ?_
  exact retC [.agg #[.int .u8 0, .int .u64 0, .int .u64 0]] _ rfl ⟨resCell hb59 rfl (by kernel_rfl), trivial⟩ (⟨hC62, (congrArg TKnown.v hs56).symm⟩)
 have hs64 := ifF ht55 hs37
 replace ht55 : (x35 = true) ∧ ((ref12_Right a1) = true) := ⟨(bNotF (bOrF ht55).1), (bNotF (bOrF ht55).2)⟩
 refine CW.skip ?_
 refine go hK32 ?_
 refine CW.seq fun K65 hK65 => ?_
 refine CW.seq fun K66 hK66 => ?_
 refine CW.region ?_
 have hb67 := (hb34.pure hc39).pure hc52
 refine WR.load (dst := some 18) (t := 56) (o := 0) hb67 (by kernel_rfl) (.agg #[.int .u8 a0.Kind, .int .u64 a0.In.Lo, .int .u64 a0.In.Hi]) (by kernel_rfl) ?_
 have hb68 := ((hb15.pure hc27).pure hc39).pure hc52
 refine WR.load (dst := some 19) (t := 56) (o := 0) hb68 (by kernel_rfl) (.agg #[.int .u8 a1.Kind, .int .u64 a1.In.Lo, .int .u64 a1.In.Hi]) (by kernel_rfl) ?_
 refine WR.valR (dst := some 20) (v := .bool ((a0.Kind == a1.Kind) && ((a0.In.Lo == a1.In.Lo) && (a0.In.Hi == a1.In.Hi)))) (w' := w51) (run_eqS (t := 56) (xs := #[.int .u8 a0.Kind, .int .u64 a0.In.Lo, .int .u64 a0.In.Hi]) (ys := #[.int .u8 a1.Kind, .int .u64 a1.In.Lo, .int .u64 a1.In.Hi]) (neg := false) (b := ((a0.Kind == a1.Kind) && ((a0.In.Lo == a1.In.Lo) && (a0.In.Hi == a1.In.Hi)))) (by kernel_rfl) (by kernel_rfl) (by kernel_rfl) w51) ?_
 refine WR.fin (by kernel_rfl) ?_
 refine go hK66 ?_
 refine CW.cond (((a0.Kind == a1.Kind) && ((a0.In.Lo == a1.In.Lo) && (a0.In.Hi == a1.In.Hi)))) (by kernel_rfl) (fun ht69 => ?_) (fun ht69 => ?_)
 ·
  have hs70 := ifT ht69 hs64
  replace ht69 : (a0.Kind = a1.Kind) ∧ ((a0.In.Lo = a1.In.Lo) ∧ (a0.In.Hi = a1.In.Hi)) := ⟨(bEqT (bAndT ht69).1), ⟨(bEqT (bAndT (bAndT ht69).2).1), (bEqT (bAndT (bAndT ht69).2).2)⟩⟩
  refine CW.seq fun K71 hK71 => ?_
  refine CW.region ?_
  refine WR.load (dst := some 21) (t := 56) (o := 0) hb67 (by kernel_rfl) (.agg #[.int .u8 a0.Kind, .int .u64 a0.In.Lo, .int .u64 a0.In.Hi]) (by kernel_rfl) ?_
  have hb75 := (hb25.pure hc39).pure hc52
  refine WR.store (t := 56) (o := 0) (v := .agg #[.int .u8 a0.Kind, .int .u64 a0.In.Lo, .int .u64 a0.In.Hi]) hb75 (by kernel_rfl) #[.int .u8 a0.Kind, .int .u64 a0.In.Lo, .int .u64 a0.In.Hi] (by kernel_rfl) ?_
  intro w72 hb73 hc74
  have hz77 := hc74.size
  have hC76 := hC53.step1 hc74 (by omega)
  refine WR.fin (by kernel_rfl) ?_
  refine go hK71 ?_
  refine CW.ret ?_
  exact retC [.agg #[.int .u8 a0.Kind, .int .u64 a0.In.Lo, .int .u64 a0.In.Hi]] _ rfl ⟨resCell hb73 rfl (by kernel_rfl), trivial⟩ (⟨hC76, (congrArg TKnown.v hs70).symm⟩)
 have hs78 := ifF ht69 hs64
 replace ht69 : (a0.Kind ≠ a1.Kind) ∨ ((a0.In.Lo ≠ a1.In.Lo) ∨ (a0.In.Hi ≠ a1.In.Hi)) := (orMap (bAndF ht69) (fun h => (bEqF h)) (fun h => (orMap (bAndF h) (fun h => (bEqF h)) (fun h => (bEqF h)))))
 refine CW.skip ?_
 refine go hK65 ?_
 refine CW.seq fun K79 hK79 => ?_
 refine CW.region ?_
 refine WR.load (dst := some 23) (t := 56) (o := 0) hb67 (by kernel_rfl) (.agg #[.int .u8 a0.Kind, .int .u64 a0.In.Lo, .int .u64 a0.In.Hi]) (by kernel_rfl) ?_
 obtain ⟨x80, hx81⟩ : ∃ x, ref12_Number a0 = x := ⟨_, rfl⟩
 have hs83 := letS hx81 hs78
 have hx82 : IU64 x80.1.Lo ∧ IU64 x80.1.Hi := by rw [← hx81]; exact ref12_Number_ok a0 ⟨(by omega), (by omega), (by omega)⟩ 
 refine WR.call (dst := some 24) (by kernel_rfl) (retE (g := (fun r : (TSpan × Bool) => (.tuple #[TSpan.v r.1, .bool r.2] : Value))) hx81 (ref12_Number_any a0 w51  ⟨(by omega), (by omega), (by omega)⟩ )) ?_
 rintro _ w84 hc85 rfl
 have hz87 := hc85.size
 have hC86 := hC53.pure hc85
 refine WR.batch 3 [(2, pt g2 0), (3, pt g12 0), (4, pt g22 0), (25, .agg #[.int .u64 x80.1.Lo, .int .u64 x80.1.Hi]), (26, .bool x80.2)] (by kernel_rfl) ?_
 refine WR.alloc (dst := some 5) (e := 25) (by kernel_rfl) #[.int .u64 0, .int .u64 0] (by kernel_rfl) ?_
 intro g88 w89 hN90
 have hf92 : w.heap.size ≤ g88 := Nat.le_trans hC86.size hN90.fresh
 have hfr94 := hN90.fresh
 have hc93 := hN90.chg
 have hz96 := hc93.size
 have hC95 := hC86.pure hc93
 have hb91 := hN90.blk
 have hg97 := hb91.lt
 refine WR.store (t := 25) (o := 0) (v := .agg #[.int .u64 x80.1.Lo, .int .u64 x80.1.Hi]) hb91 (by kernel_rfl) #[.int .u64 x80.1.Lo, .int .u64 x80.1.Hi] (by kernel_rfl) ?_
 intro w98 hb99 hc100
 have hz102 := hc100.size
 have hC101 := hC95.step1 hc100 (by omega)
 refine WR.batch 1 [(2, pt g2 0), (3, pt g12 0), (4, pt g22 0), (5, pt g88 0), (6, .bool x80.2)] (by kernel_rfl) ?_
 refine WR.fin (by kernel_rfl) ?_
 refine go hK79 ?_
 refine CW.seq fun K103 hK103 => ?_
 refine CW.region ?_
 have hb104 := ((hb68.pure hc85).pure hc93).chg1 hc100 (by omega)
 refine WR.load (dst := some 28) (t := 56) (o := 0) hb104 (by kernel_rfl) (.agg #[.int .u8 a1.Kind, .int .u64 a1.In.Lo, .int .u64 a1.In.Hi]) (by kernel_rfl) ?_
 obtain ⟨x105, hx106⟩ : ∃ x, ref12_Number a1 = x := ⟨_, rfl⟩
 have hs108 := letS hx106 hs83
 have hx107 : IU64 x105.1.Lo ∧ IU64 x105.1.Hi := by rw [← hx106]; exact ref12_Number_ok a1 ⟨(by omega), (by omega), (by omega)⟩ 
 refine WR.call (dst := some 29) (by kernel_rfl) (retE (g := (fun r : (TSpan × Bool) => (.tuple #[TSpan.v r.1, .bool r.2] : Value))) hx106 (ref12_Number_any a1 w98  ⟨(by omega), (by omega), (by omega)⟩ )) ?_
 rintro _ w109 hc110 rfl
 have hz112 := hc110.size
 have hC111 := hC101.pure hc110
 refine WR.batch 3 [(2, pt g2 0), (3, pt g12 0), (4, pt g22 0), (5, pt g88 0), (6, .bool x80.2), (30, .agg #[.int .u64 x105.1.Lo, .int .u64 x105.1.Hi]), (31, .bool x105.2)] (by kernel_rfl) ?_
 refine WR.alloc (dst := some 7) (e := 25) (by kernel_rfl) #[.int .u64 0, .int .u64 0] (by kernel_rfl) ?_
 intro g113 w114 hN115
 have hf117 : w.heap.size ≤ g113 := Nat.le_trans hC111.size hN115.fresh
 have hfr119 := hN115.fresh
 have hc118 := hN115.chg
 have hz121 := hc118.size
 have hC120 := hC111.pure hc118
 have hb116 := hN115.blk
 have hg122 := hb116.lt
 refine WR.store (t := 25) (o := 0) (v := .agg #[.int .u64 x105.1.Lo, .int .u64 x105.1.Hi]) hb116 (by kernel_rfl) #[.int .u64 x105.1.Lo, .int .u64 x105.1.Hi] (by kernel_rfl) ?_
 intro w123 hb124 hc125
 have hz127 := hc125.size
 have hC126 := hC120.step1 hc125 (by omega)
 refine WR.batch 1 [(2, pt g2 0), (3, pt g12 0), (4, pt g22 0), (5, pt g88 0), (6, .bool x80.2), (7, pt g113 0), (8, .bool x105.2)] (by kernel_rfl) ?_
 refine WR.fin (by kernel_rfl) ?_
 refine go hK103 ?_
 refine CW.seq fun K128 hK128 => ?_
 refine CW.seq fun K129 hK129 => ?_
 refine CW.region ?_
 refine WR.batch 2 [(2, pt g2 0), (3, pt g12 0), (4, pt g22 0), (5, pt g88 0), (7, pt g113 0), (8, .bool x105.2), (33, .bool x80.2)] (by kernel_rfl) ?_
 refine WR.batch 2 [(2, pt g2 0), (3, pt g12 0), (4, pt g22 0), (5, pt g88 0), (7, pt g113 0), (35, .bool (x80.2 && x105.2))] (by generalize x80.2 = b; cases b <;> kernel_rfl) ?_
 refine WR.fin (by kernel_rfl) ?_
 refine go hK129 ?_
 refine CW.cond ((x80.2 && x105.2)) (by kernel_rfl) (fun ht130 => ?_) (fun ht130 => ?_)
 ·
  have hs131 := ifT ht130 hs108
  replace ht130 : (x80.2 = true) ∧ (x105.2 = true) := ⟨(bAndT ht130).1, (bAndT ht130).2⟩
  refine CW.seq fun K132 hK132 => ?_
  refine CW.region ?_
  have hb133 := ((hb99.pure hc110).pure hc118).chg1 hc125 (by omega)
  refine WR.load (dst := some 36) (t := 25) (o := 0) hb133 (by kernel_rfl) (.agg #[.int .u64 x80.1.Lo, .int .u64 x80.1.Hi]) (by kernel_rfl) ?_
  refine WR.load (dst := some 37) (t := 25) (o := 0) hb124 (by kernel_rfl) (.agg #[.int .u64 x105.1.Lo, .int .u64 x105.1.Hi]) (by kernel_rfl) ?_
  obtain ⟨x134, hx135⟩ : ∃ x, ref11_Join x80.1 x105.1 = x := ⟨_, rfl⟩
  have hs137 := letS hx135 hs131
  have hx136 : IU64 x134.Lo ∧ IU64 x134.Hi := by rw [← hx135]; exact ref11_Join_ok x80.1 x105.1 ⟨(by omega), (by omega)⟩ ⟨(by omega), (by omega)⟩ 
  refine WR.call (dst := some 38) (by kernel_rfl) (retE (g := TSpan.v) hx135 (ref11_Join_any x80.1 x105.1 w123  ⟨(by omega), (by omega)⟩ ⟨(by omega), (by omega)⟩ )) ?_
  rintro _ w138 hc139 rfl
  have hz141 := hc139.size
  have hC140 := hC126.pure hc139
  refine WR.batch 1 [(4, pt g22 0), (39, .agg #[.int .u8 1, .int .u64 x134.Lo, .int .u64 x134.Hi])] (by kernel_rfl) ?_
  have hb145 := ((((((((hb25.pure hc39).pure hc52).pure hc85).pure hc93).chg1 hc100 (by omega)).pure hc110).pure hc118).chg1 hc125 (by omega)).pure hc139
  refine WR.store (t := 56) (o := 0) (v := .agg #[.int .u8 1, .int .u64 x134.Lo, .int .u64 x134.Hi]) hb145 (by kernel_rfl) #[.int .u8 1, .int .u64 x134.Lo, .int .u64 x134.Hi] (by kernel_rfl) ?_
  intro w142 hb143 hc144
  have hz147 := hc144.size
  have hC146 := hC140.step1 hc144 (by omega)
  refine WR.fin (by kernel_rfl) ?_
  refine go hK132 ?_
  refine CW.ret ?_
  exact retC [.agg #[.int .u8 1, .int .u64 x134.Lo, .int .u64 x134.Hi]] _ rfl ⟨resCell hb143 rfl (by kernel_rfl), trivial⟩ (⟨hC146, (congrArg TKnown.v hs137).symm⟩)
 have hs148 := ifF ht130 hs108
 replace ht130 : (x80.2 = false) ∨ (x105.2 = false) := (orMap (bAndF ht130) (fun h => h) (fun h => h))
 refine CW.skip ?_
 refine go hK128 ?_
 refine CW.seq fun K149 hK149 => ?_
 refine CW.seq fun K150 hK150 => ?_
 refine CW.region ?_
 refine WR.batch 1 [(2, pt g2 0), (3, pt g12 0), (4, pt g22 0), (40, pt g2 0)] (by kernel_rfl) ?_
 have hb151 := (((((hb67.pure hc85).pure hc93).chg1 hc100 (by omega)).pure hc110).pure hc118).chg1 hc125 (by omega)
 refine WR.load (dst := some 41) (t := 54) (o := 0) hb151 (by kernel_rfl) (.int .u8 a0.Kind) (by kernel_rfl) ?_
 refine WR.batch 2 [(2, pt g2 0), (3, pt g12 0), (4, pt g22 0), (43, .bool (a0.Kind == (2 : Int)))] (by kernel_rfl) ?_
 refine WR.mergeW 8 [(2, pt g2 0), (3, pt g12 0), (4, pt g22 0), (47, .bool ((a0.Kind == (2 : Int)) && (a1.Kind == (2 : Int))))] (fun w' => Chg [] w123 w') (fun Q' => ?_) ?_
 ·
  cases hg152 : (a0.Kind == (2 : Int))
  ·
   have hk154 := hg152
   replace hg152 : a0.Kind ≠ (2 : Int) := (bEqF hg152)
   intro hM153
   refine WR.batch 4 [(2, pt g2 0), (3, pt g12 0), (4, pt g22 0), (47, .bool false)] (by kernel_rfl) ?_
   exact WR.keep [2, 3, 4, 47] (by kernel_rfl) (hM153 _ (Chg.refl [] w123))
  ·
   have hk155 := hg152
   replace hg152 : a0.Kind = (2 : Int) := (bEqT hg152)
   intro hM153
   refine WR.batch 1 [(2, pt g2 0), (3, pt g12 0), (4, pt g22 0), (43, .bool true), (44, pt g12 0)] (by kernel_rfl) ?_
   have hb156 := ((hb104.pure hc110).pure hc118).chg1 hc125 (by omega)
   refine WR.load (dst := some 45) (t := 54) (o := 0) hb156 (by kernel_rfl) (.int .u8 a1.Kind) (by kernel_rfl) ?_
   refine WR.batch 2 [(2, pt g2 0), (3, pt g12 0), (4, pt g22 0), (47, .bool (a1.Kind == (2 : Int)))] (by kernel_rfl) ?_
   exact WR.keep [2, 3, 4, 47] (by kernel_rfl) (hM153 _ (Chg.refl [] w123))
 intro w157 hc158
 have hz160 := hc158.size
 have hC159 := hC126.pure hc158
 refine WR.fin (by kernel_rfl) ?_
 refine go hK150 ?_
 refine CW.cond (((a0.Kind == (2 : Int)) && (a1.Kind == (2 : Int)))) (by kernel_rfl) (fun ht161 => ?_) (fun ht161 => ?_)
 ·
  have hs162 := ifT ht161 hs148
  replace ht161 : (a0.Kind = (2 : Int)) ∧ (a1.Kind = (2 : Int)) := ⟨(bEqT (bAndT ht161).1), (bEqT (bAndT ht161).2)⟩
  refine CW.seq fun K163 hK163 => ?_
  refine CW.region ?_
  refine WR.batch 1 [(3, pt g12 0), (4, pt g22 0), (48, pt g2 1)] (by kernel_rfl) ?_
  have hb164 := hb151.pure hc158
  refine WR.load (dst := some 49) (t := 25) (o := 1) hb164 (by kernel_rfl) (.agg #[.int .u64 a0.In.Lo, .int .u64 a0.In.Hi]) (by kernel_rfl) ?_
  refine WR.batch 1 [(4, pt g22 0), (49, .agg #[.int .u64 a0.In.Lo, .int .u64 a0.In.Hi]), (50, pt g12 1)] (by kernel_rfl) ?_
  have hb165 := (((hb104.pure hc110).pure hc118).chg1 hc125 (by omega)).pure hc158
  refine WR.load (dst := some 51) (t := 25) (o := 1) hb165 (by kernel_rfl) (.agg #[.int .u64 a1.In.Lo, .int .u64 a1.In.Hi]) (by kernel_rfl) ?_
  obtain ⟨x166, hx167⟩ : ∃ x, ref11_Join a0.In a1.In = x := ⟨_, rfl⟩
  have hs169 := letS hx167 hs162
  have hx168 : IU64 x166.Lo ∧ IU64 x166.Hi := by rw [← hx167]; exact ref11_Join_ok a0.In a1.In ⟨(by omega), (by omega)⟩ ⟨(by omega), (by omega)⟩ 
  refine WR.call (dst := some 52) (by kernel_rfl) (retE (g := TSpan.v) hx167 (ref11_Join_any a0.In a1.In w157  ⟨(by omega), (by omega)⟩ ⟨(by omega), (by omega)⟩ )) ?_
  rintro _ w170 hc171 rfl
  have hz173 := hc171.size
  have hC172 := hC159.pure hc171
  refine WR.batch 1 [(4, pt g22 0), (53, .agg #[.int .u8 2, .int .u64 x166.Lo, .int .u64 x166.Hi])] (by kernel_rfl) ?_
  have hb177 := (((((((((hb25.pure hc39).pure hc52).pure hc85).pure hc93).chg1 hc100 (by omega)).pure hc110).pure hc118).chg1 hc125 (by omega)).pure hc158).pure hc171
  refine WR.store (t := 56) (o := 0) (v := .agg #[.int .u8 2, .int .u64 x166.Lo, .int .u64 x166.Hi]) hb177 (by kernel_rfl) #[.int .u8 2, .int .u64 x166.Lo, .int .u64 x166.Hi] (by kernel_rfl) ?_
  intro w174 hb175 hc176
  have hz179 := hc176.size
  have hC178 := hC172.step1 hc176 (by omega)
  refine WR.fin (by kernel_rfl) ?_
  refine go hK163 ?_
  refine CW.ret ?_
  exact retC [.agg #[.int .u8 2, .int .u64 x166.Lo, .int .u64 x166.Hi]] _ rfl ⟨resCell hb175 rfl (by kernel_rfl), trivial⟩ (⟨hC178, (congrArg TKnown.v hs169).symm⟩)
 have hs180 := ifF ht161 hs148
 replace ht161 : (a0.Kind ≠ (2 : Int)) ∨ (a1.Kind ≠ (2 : Int)) := (orMap (bAndF ht161) (fun h => (bEqF h)) (fun h => (bEqF h)))
 refine CW.skip ?_
 refine go hK149 ?_
 refine CW.seq fun K181 hK181 => ?_
 refine CW.region ?_
 refine WR.batch 1 [(4, pt g22 0), (54, .agg #[.int .u8 0, .int .u64 0, .int .u64 0])] (by kernel_rfl) ?_
 have hb185 := ((((((((hb25.pure hc39).pure hc52).pure hc85).pure hc93).chg1 hc100 (by omega)).pure hc110).pure hc118).chg1 hc125 (by omega)).pure hc158
 refine WR.store (t := 56) (o := 0) (v := .agg #[.int .u8 0, .int .u64 0, .int .u64 0]) hb185 (by kernel_rfl) #[.int .u8 0, .int .u64 0, .int .u64 0] (by kernel_rfl) ?_
 intro w182 hb183 hc184
 have hz187 := hc184.size
 have hC186 := hC159.step1 hc184 (by omega)
 refine WR.fin (by kernel_rfl) ?_
 refine go hK181 ?_
 refine CW.ret ?_
 exact retC [.agg #[.int .u8 0, .int .u64 0, .int .u64 0]] _ rfl ⟨resCell hb183 rfl (by kernel_rfl), trivial⟩ (⟨hC186, (congrArg TKnown.v hs180).symm⟩)
end Go.V
