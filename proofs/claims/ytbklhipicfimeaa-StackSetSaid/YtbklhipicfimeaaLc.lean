import Derived.Test.YtbklhipicfimeaaProg
import Derived.Test.YtbklhipicfimeaaLb
namespace Go.V
open Go.RowKit Go.Proofs
theorem stackSet_any (ad1 ad2 : Option Addr) (cap1 cap2 : Nat) (ds1 ds2 : List Do) (at_ size : Int) (w : World) (h1 : Rg w ad1 (Do.cs ds1)) (h2 : Rg w ad2 (Do.cs ds2)) (hgds1 : ∀ d ∈ ds1, d.good) (hgds2 : ∀ d ∈ ds2, d.good) : Calls Try.prog 6 #[.slice ad1 ds1.length cap1, .slice ad2 ds2.length cap2, .int .i64 at_, .int .i64 size] w (RetV w (.bool true)) := by
  refine calls_of_CW Try.func6 rfl (n := 146) Try.ntmps6 (by kernel_rfl) [0, 1, 2, 3] (F := [(0, .slice ad1 ds1.length cap1), (1, .slice ad2 ds2.length cap2), (2, .int .i64 at_), (3, .int .i64 size)]) (by kernel_rfl) ?_
  refine CW.seq fun K1 hK1 => ?_
  refine CW.region ?_
  refine WR.batch 1 [(0, .slice ad1 ds1.length cap1), (1, .slice ad2 ds2.length cap2), (2, .int .i64 at_), (3, .int .i64 size)] (by kernel_rfl) ?_
  refine WR.fin (by kernel_rfl) ?_
  refine go hK1 ?_
  refine CW.seq fun K2 hK2 => ?_
  refine CW.seq fun K3 hK3 => ?_
  refine CW.region ?_
  refine WR.call (dst := some 17) (by kernel_rfl) (awake_any w) ?_
  rintro _ w4 hc5 rfl
  have hz7 := hc5.size
  have hC6 := (Chg.refl [] w).pure hc5
  refine WR.batch 1 [(0, .slice ad1 ds1.length cap1), (1, .slice ad2 ds2.length cap2), (2, .int .i64 at_), (3, .int .i64 size), (18, .bool false)] (by kernel_rfl) ?_
  refine WR.fin (by kernel_rfl) ?_
  refine go hK3 ?_
  refine CW.no (by kernel_rfl) ?_
  refine CW.skip ?_
  refine go hK2 ?_
  refine CW.seq fun K8 hK8 => ?_
  refine CW.region ?_
  refine WR.batch 1 [(0, .slice ad1 ds1.length cap1), (1, .slice ad2 ds2.length cap2), (2, .int .i64 at_), (3, .int .i64 size), (20, .slice ad1 ds1.length cap1)] (by kernel_rfl) ?_
  refine WR.call (dst := some 21) (by kernel_rfl) (row_any ad1 cap1 ds1 w4 (h1.pure hC6) hgds1) ?_
  rintro _ w17 hc18 ⟨ad9, cap10, e11, ad212, cap213, e214, rfl, ho15, ho216⟩
  have hz20 := hc18.size
  have hC19 := hC6.pure hc18
  refine WR.batch 5 [(0, .slice ad1 ds1.length cap1), (1, .slice ad2 ds2.length cap2), (2, .int .i64 at_), (3, .int .i64 size), (9, .slice ad9 (rowL ds1).length cap10), (10, .slice ad212 512 cap213)] (by kernel_rfl) ?_
  refine WR.fin (by kernel_rfl) ?_
  refine go hK8 ?_
  refine CW.seq fun K21 hK21 => ?_
  refine CW.region ?_
  refine WR.batch 1 [(0, .slice ad1 ds1.length cap1), (1, .slice ad2 ds2.length cap2), (2, .int .i64 at_), (3, .int .i64 size), (9, .slice ad9 (rowL ds1).length cap10), (10, .slice ad212 512 cap213), (25, .slice ad2 ds2.length cap2)] (by kernel_rfl) ?_
  have hge30 := ho15.ge
  have hge31 := ho216.ge
  refine WR.call (dst := some 26) (by kernel_rfl) (row_any ad2 cap2 ds2 w17 (h2.pure hC19) hgds2) ?_
  rintro _ w32 hc33 ⟨ad22, cap23, e24, ad225, cap226, e227, rfl, ho28, ho229⟩
  have hz35 := hc33.size
  have hC34 := hC19.pure hc33
  have ho36 := ho15.pure hc33
  have ho37 := ho216.pure hc33
  have hap38 := Apart.new hge30 ho28 (by omega)
  have hap39 := Apart.new hge31 ho28 (by omega)
  have hap40 := Apart.new hge30 ho229 (by omega)
  have hap41 := Apart.new hge31 ho229 (by omega)
  refine WR.batch 5 [(0, .slice ad1 ds1.length cap1), (1, .slice ad2 ds2.length cap2), (2, .int .i64 at_), (3, .int .i64 size), (9, .slice ad9 (rowL ds1).length cap10), (10, .slice ad212 512 cap213), (11, .slice ad22 (rowL ds2).length cap23), (12, .slice ad225 512 cap226)] (by kernel_rfl) ?_
  refine WR.fin (by kernel_rfl) ?_
  refine go hK21 ?_
  refine CW.seq fun K42 hK42 => ?_
  refine CW.seq fun K43 hK43 => ?_
  refine CW.region ?_
  refine WR.batch 4 [(0, .slice ad1 ds1.length cap1), (1, .slice ad2 ds2.length cap2), (2, .int .i64 at_), (3, .int .i64 size), (9, .slice ad9 (rowL ds1).length cap10), (10, .slice ad212 512 cap213), (11, .slice ad22 (rowL ds2).length cap23), (12, .slice ad225 512 cap226), (32, .bool (((ds1.length : Nat) : Int) == (0 : Int)))] (by kernel_rfl) ?_
  refine WR.batch 4 [(0, .slice ad1 ds1.length cap1), (1, .slice ad2 ds2.length cap2), (2, .int .i64 at_), (3, .int .i64 size), (9, .slice ad9 (rowL ds1).length cap10), (10, .slice ad212 512 cap213), (11, .slice ad22 (rowL ds2).length cap23), (12, .slice ad225 512 cap226), (36, .bool ((((ds1.length : Nat) : Int) == (0 : Int)) || (((ds2.length : Nat) : Int) == (0 : Int))))] (by generalize (((ds1.length : Nat) : Int) == (0 : Int)) = b; cases b <;> kernel_rfl) ?_
  refine WR.batch 1 [(0, .slice ad1 ds1.length cap1), (1, .slice ad2 ds2.length cap2), (2, .int .i64 at_), (3, .int .i64 size), (9, .slice ad9 (rowL ds1).length cap10), (10, .slice ad212 512 cap213), (11, .slice ad22 (rowL ds2).length cap23), (12, .slice ad225 512 cap226), (37, .bool ((((ds1.length : Nat) : Int) == (0 : Int)) || (((ds2.length : Nat) : Int) == (0 : Int))))] (by kernel_rfl) ?_
  refine WR.batch 4 [(1, .slice ad2 ds2.length cap2), (2, .int .i64 at_), (3, .int .i64 size), (9, .slice ad9 (rowL ds1).length cap10), (10, .slice ad212 512 cap213), (11, .slice ad22 (rowL ds2).length cap23), (12, .slice ad225 512 cap226), (41, .bool (((((ds1.length : Nat) : Int) == (0 : Int)) || (((ds2.length : Nat) : Int) == (0 : Int))) || (decide (((ds1.length : Nat) : Int) > (60 : Int)))))] (by generalize ((((ds1.length : Nat) : Int) == (0 : Int)) || (((ds2.length : Nat) : Int) == (0 : Int))) = b; cases b <;> kernel_rfl) ?_
  refine WR.batch 1 [(1, .slice ad2 ds2.length cap2), (2, .int .i64 at_), (3, .int .i64 size), (9, .slice ad9 (rowL ds1).length cap10), (10, .slice ad212 512 cap213), (11, .slice ad22 (rowL ds2).length cap23), (12, .slice ad225 512 cap226), (42, .bool (((((ds1.length : Nat) : Int) == (0 : Int)) || (((ds2.length : Nat) : Int) == (0 : Int))) || (decide (((ds1.length : Nat) : Int) > (60 : Int)))))] (by kernel_rfl) ?_
  refine WR.batch 4 [(2, .int .i64 at_), (3, .int .i64 size), (9, .slice ad9 (rowL ds1).length cap10), (10, .slice ad212 512 cap213), (11, .slice ad22 (rowL ds2).length cap23), (12, .slice ad225 512 cap226), (46, .bool ((((((ds1.length : Nat) : Int) == (0 : Int)) || (((ds2.length : Nat) : Int) == (0 : Int))) || (decide (((ds1.length : Nat) : Int) > (60 : Int)))) || (decide (((ds2.length : Nat) : Int) > (60 : Int)))))] (by generalize (((((ds1.length : Nat) : Int) == (0 : Int)) || (((ds2.length : Nat) : Int) == (0 : Int))) || (decide (((ds1.length : Nat) : Int) > (60 : Int)))) = b; cases b <;> kernel_rfl) ?_
  refine WR.fin (by kernel_rfl) ?_
  refine go hK43 ?_
  refine CW.cond (((((((ds1.length : Nat) : Int) == (0 : Int)) || (((ds2.length : Nat) : Int) == (0 : Int))) || (decide (((ds1.length : Nat) : Int) > (60 : Int)))) || (decide (((ds2.length : Nat) : Int) > (60 : Int))))) (by kernel_rfl) (fun ht44 => ?_) (fun ht44 => ?_)
  ·
    replace ht44 : (((((ds1.length : Nat) : Int) = (0 : Int)) ∨ (((ds2.length : Nat) : Int) = (0 : Int))) ∨ (((ds1.length : Nat) : Int) > (60 : Int))) ∨ (((ds2.length : Nat) : Int) > (60 : Int)) := (orMap (bOrT ht44) (fun h => (orMap (bOrT h) (fun h => (orMap (bOrT h) (fun h => (bEqT h)) (fun h => (bEqT h)))) (fun h => (of_decide_eq_true h)))) (fun h => (of_decide_eq_true h)))
    refine CW.seq fun K45 hK45 => ?_
    refine CW.region ?_
    refine WR.batch 1 [(8, .bool true)] (by kernel_rfl) ?_
    refine WR.fin (by kernel_rfl) ?_
    refine go hK45 ?_
    refine CW.ret ?_
    exact retV (.bool true) (by kernel_rfl) ⟨hC34, rfl⟩
  ·
    replace ht44 : (((((ds1.length : Nat) : Int) ≠ (0 : Int)) ∧ (((ds2.length : Nat) : Int) ≠ (0 : Int))) ∧ (¬ (((ds1.length : Nat) : Int) > (60 : Int)))) ∧ (¬ (((ds2.length : Nat) : Int) > (60 : Int))) := ⟨⟨⟨(bEqF (bOrF (bOrF (bOrF ht44).1).1).1), (bEqF (bOrF (bOrF (bOrF ht44).1).1).2)⟩, (of_decide_eq_false (bOrF (bOrF ht44).1).2)⟩, (of_decide_eq_false (bOrF ht44).2)⟩
    refine CW.skip ?_
    refine go hK42 ?_
    refine CW.seq fun K46 hK46 => ?_
    refine CW.region ?_
    refine WR.batch 2 [(2, .int .i64 at_), (3, .int .i64 size), (9, .slice ad9 (rowL ds1).length cap10), (10, .slice ad212 512 cap213), (11, .slice ad22 (rowL ds2).length cap23), (12, .slice ad225 512 cap226), (47, .slice ad9 (rowL ds1).length cap10), (48, .slice ad22 (rowL ds2).length cap23)] (by kernel_rfl) ?_
    have hge51 := ho36.ge
    have hge52 := ho37.ge
    have hge53 := ho28.ge
    have hge54 := ho229.ge
    refine WR.call (dst := some 49) (by kernel_rfl) (Join_any ad9 ad22 cap10 cap23 (rowL ds1) (rowL ds2) w32 ho36.rg ho28.rg) ?_
    rintro _ w55 hc56 ⟨ad47, cap48, e50, rfl, ho49⟩
    have hz58 := hc56.size
    have hC57 := hC34.pure hc56
    have ho59 := ho36.pure hc56
    have ho60 := ho37.pure hc56
    have ho61 := ho28.pure hc56
    have ho62 := ho229.pure hc56
    have hap63 := Apart.new hge51 ho49 (by omega)
    have hap64 := Apart.new hge52 ho49 (by omega)
    have hap65 := Apart.new hge53 ho49 (by omega)
    have hap66 := Apart.new hge54 ho49 (by omega)
    refine WR.batch 1 [(2, .int .i64 at_), (3, .int .i64 size), (9, .slice ad9 (rowL ds1).length cap10), (10, .slice ad212 512 cap213), (11, .slice ad22 (rowL ds2).length cap23), (12, .slice ad225 512 cap226), (13, .slice ad47 (joinL (rowL ds1) (rowL ds2)).length cap48)] (by kernel_rfl) ?_
    refine WR.fin (by kernel_rfl) ?_
    refine go hK46 ?_
    refine CW.seq fun K67 hK67 => ?_
    refine CW.seq fun K68 hK68 => ?_
    refine CW.region ?_
    refine WR.batch 3 [(2, .int .i64 at_), (3, .int .i64 size), (9, .slice ad9 (rowL ds1).length cap10), (10, .slice ad212 512 cap213), (11, .slice ad22 (rowL ds2).length cap23), (12, .slice ad225 512 cap226), (13, .slice ad47 (joinL (rowL ds1) (rowL ds2)).length cap48), (52, .bool ((((rowL ds1).length : Nat) : Int) != (512 : Int)))] (by kernel_rfl) ?_
    have hk69 : ((((rowL ds1).length : Nat) : Int) != (512 : Int)) = false := bne_eq_false_iff_eq.2 (by have h := rowL_len ds1; omega)
    refine WR.eqF (F' := [(2, .int .i64 at_), (3, .int .i64 size), (9, .slice ad9 (rowL ds1).length cap10), (10, .slice ad212 512 cap213), (11, .slice ad22 (rowL ds2).length cap23), (12, .slice ad225 512 cap226), (13, .slice ad47 (joinL (rowL ds1) (rowL ds2)).length cap48), (52, .bool false)]) (by rw [hk69]) ?_
    refine WR.batch 4 [(2, .int .i64 at_), (3, .int .i64 size), (9, .slice ad9 (rowL ds1).length cap10), (10, .slice ad212 512 cap213), (11, .slice ad22 (rowL ds2).length cap23), (12, .slice ad225 512 cap226), (13, .slice ad47 (joinL (rowL ds1) (rowL ds2)).length cap48), (53, .bool false), (56, .bool ((((rowL ds2).length : Nat) : Int) != (512 : Int)))] (by kernel_rfl) ?_
    have hk70 : ((((rowL ds2).length : Nat) : Int) != (512 : Int)) = false := bne_eq_false_iff_eq.2 (by have h := rowL_len ds2; omega)
    refine WR.eqF (F' := [(2, .int .i64 at_), (3, .int .i64 size), (9, .slice ad9 (rowL ds1).length cap10), (10, .slice ad212 512 cap213), (11, .slice ad22 (rowL ds2).length cap23), (12, .slice ad225 512 cap226), (13, .slice ad47 (joinL (rowL ds1) (rowL ds2)).length cap48), (53, .bool false), (56, .bool false)]) (by rw [hk70]) ?_
    refine WR.batch 5 [(2, .int .i64 at_), (3, .int .i64 size), (9, .slice ad9 (rowL ds1).length cap10), (10, .slice ad212 512 cap213), (11, .slice ad22 (rowL ds2).length cap23), (12, .slice ad225 512 cap226), (13, .slice ad47 (joinL (rowL ds1) (rowL ds2)).length cap48), (58, .bool false), (61, .bool ((((joinL (rowL ds1) (rowL ds2)).length : Nat) : Int) != (512 : Int)))] (by kernel_rfl) ?_
    have hk71 : ((((joinL (rowL ds1) (rowL ds2)).length : Nat) : Int) != (512 : Int)) = false := bne_eq_false_iff_eq.2 (by have h := joinL_512 (rowL_len ds1) (rowL_len ds2); omega)
    refine WR.eqF (F' := [(2, .int .i64 at_), (3, .int .i64 size), (9, .slice ad9 (rowL ds1).length cap10), (10, .slice ad212 512 cap213), (11, .slice ad22 (rowL ds2).length cap23), (12, .slice ad225 512 cap226), (13, .slice ad47 (joinL (rowL ds1) (rowL ds2)).length cap48), (58, .bool false), (61, .bool false)]) (by rw [hk71]) ?_
    refine WR.batch 4 [(2, .int .i64 at_), (3, .int .i64 size), (9, .slice ad9 (rowL ds1).length cap10), (10, .slice ad212 512 cap213), (11, .slice ad22 (rowL ds2).length cap23), (12, .slice ad225 512 cap226), (13, .slice ad47 (joinL (rowL ds1) (rowL ds2)).length cap48), (63, .bool false), (64, .slice ad9 (rowL ds1).length cap10), (65, .slice ad47 (joinL (rowL ds1) (rowL ds2)).length cap48)] (by kernel_rfl) ?_
    refine WR.call (dst := some 66) (by kernel_rfl) (Within_any ad9 ad47 cap10 cap48 (rowL ds1) (joinL (rowL ds1) (rowL ds2)) w55 ho59.rg ho49.rg) ?_
    rintro _ w72 hc73 rfl
    have hz75 := hc73.size
    have hC74 := hC57.pure hc73
    have ho76 := ho59.pure hc73
    have ho77 := ho60.pure hc73
    have ho78 := ho61.pure hc73
    have ho79 := ho62.pure hc73
    have ho80 := ho49.pure hc73
    refine WR.batch 1 [(2, .int .i64 at_), (3, .int .i64 size), (9, .slice ad9 (rowL ds1).length cap10), (10, .slice ad212 512 cap213), (11, .slice ad22 (rowL ds2).length cap23), (12, .slice ad225 512 cap226), (13, .slice ad47 (joinL (rowL ds1) (rowL ds2)).length cap48), (63, .bool false), (67, .bool (!(withinE (rowL ds1) (joinL (rowL ds1) (rowL ds2)))))] (by kernel_rfl) ?_
    have hk81 : (!(withinE (rowL ds1) (joinL (rowL ds1) (rowL ds2)))) = false := (by rw [within_join1 (rowL_len ds1) (rowL_len ds2)]; rfl)
    refine WR.eqF (F' := [(2, .int .i64 at_), (3, .int .i64 size), (9, .slice ad9 (rowL ds1).length cap10), (10, .slice ad212 512 cap213), (11, .slice ad22 (rowL ds2).length cap23), (12, .slice ad225 512 cap226), (13, .slice ad47 (joinL (rowL ds1) (rowL ds2)).length cap48), (63, .bool false), (67, .bool false)]) (by rw [hk81]) ?_
    refine WR.batch 4 [(2, .int .i64 at_), (3, .int .i64 size), (9, .slice ad9 (rowL ds1).length cap10), (10, .slice ad212 512 cap213), (11, .slice ad22 (rowL ds2).length cap23), (12, .slice ad225 512 cap226), (13, .slice ad47 (joinL (rowL ds1) (rowL ds2)).length cap48), (69, .bool false), (70, .slice ad22 (rowL ds2).length cap23), (71, .slice ad47 (joinL (rowL ds1) (rowL ds2)).length cap48)] (by kernel_rfl) ?_
    refine WR.call (dst := some 72) (by kernel_rfl) (Within_any ad22 ad47 cap23 cap48 (rowL ds2) (joinL (rowL ds1) (rowL ds2)) w72 ho78.rg ho80.rg) ?_
    rintro _ w82 hc83 rfl
    have hz85 := hc83.size
    have hC84 := hC74.pure hc83
    have ho86 := ho76.pure hc83
    have ho87 := ho77.pure hc83
    have ho88 := ho78.pure hc83
    have ho89 := ho79.pure hc83
    have ho90 := ho80.pure hc83
    refine WR.batch 1 [(2, .int .i64 at_), (3, .int .i64 size), (9, .slice ad9 (rowL ds1).length cap10), (10, .slice ad212 512 cap213), (11, .slice ad22 (rowL ds2).length cap23), (12, .slice ad225 512 cap226), (13, .slice ad47 (joinL (rowL ds1) (rowL ds2)).length cap48), (69, .bool false), (73, .bool (!(withinE (rowL ds2) (joinL (rowL ds1) (rowL ds2)))))] (by kernel_rfl) ?_
    have hk91 : (!(withinE (rowL ds2) (joinL (rowL ds1) (rowL ds2)))) = false := (by rw [within_join2 (rowL_len ds1) (rowL_len ds2)]; rfl)
    refine WR.eqF (F' := [(2, .int .i64 at_), (3, .int .i64 size), (9, .slice ad9 (rowL ds1).length cap10), (10, .slice ad212 512 cap213), (11, .slice ad22 (rowL ds2).length cap23), (12, .slice ad225 512 cap226), (13, .slice ad47 (joinL (rowL ds1) (rowL ds2)).length cap48), (69, .bool false), (73, .bool false)]) (by rw [hk91]) ?_
    refine WR.batch 1 [(2, .int .i64 at_), (3, .int .i64 size), (9, .slice ad9 (rowL ds1).length cap10), (10, .slice ad212 512 cap213), (11, .slice ad22 (rowL ds2).length cap23), (12, .slice ad225 512 cap226), (13, .slice ad47 (joinL (rowL ds1) (rowL ds2)).length cap48), (74, .bool false)] (by kernel_rfl) ?_
    refine WR.fin (by kernel_rfl) ?_
    refine go hK68 ?_
    refine CW.no (by kernel_rfl) ?_
    refine CW.skip ?_
    refine go hK67 ?_
    refine CW.seq fun K92 hK92 => ?_
    refine CW.seq fun K93 hK93 => ?_
    refine CW.region ?_
    refine WR.batch 1 [(2, .int .i64 at_), (3, .int .i64 size), (9, .slice ad9 (rowL ds1).length cap10), (10, .slice ad212 512 cap213), (11, .slice ad22 (rowL ds2).length cap23), (12, .slice ad225 512 cap226), (13, .slice ad47 (joinL (rowL ds1) (rowL ds2)).length cap48), (14, .int .i64 (0 : Int))] (by kernel_rfl) ?_
    refine WR.fin (by kernel_rfl) ?_
    refine go hK93 ?_
    refine CW.block ?_
    refine CW.loop (σ := Nat) (fun k w94 => Chg [] w w94 ∧ (k ≤ 512) ∧ (Own w94 w4.heap.size e11 1 ad9 (rowL ds1).length cap10 (bo (rowL ds1))) ∧ (Own w94 w4.heap.size e214 1 ad212 512 cap213 (bo (rowL ds1))) ∧ (Own w94 w17.heap.size e24 1 ad22 (rowL ds2).length cap23 (bo (rowL ds2))) ∧ (Own w94 w17.heap.size e227 1 ad225 512 cap226 (bo (rowL ds2))) ∧ (Own w94 w32.heap.size e50 1 ad47 (joinL (rowL ds1) (rowL ds2)).length cap48 (bo (joinL (rowL ds1) (rowL ds2))))) (fun k => [(2, .int .i64 at_), (3, .int .i64 size), (9, .slice ad9 (rowL ds1).length cap10), (10, .slice ad212 512 cap213), (11, .slice ad22 (rowL ds2).length cap23), (12, .slice ad225 512 cap226), (13, .slice ad47 (joinL (rowL ds1) (rowL ds2)).length cap48), (14, .int .i64 ((k : Nat) : Int))]) (fun k => 512 - k) (0) ⟨hC84, (by omega), ho86, ho87, ho88, ho89, ho90⟩ [2, 3, 9, 10, 11, 12, 13, 14] (by kernel_rfl) ?_
    rintro k w94 ⟨hC95, hk, hv96, hv97, hv98, hv99, hv100⟩
    refine CW.seq fun K101 hK101 => ?_
    refine CW.seq fun K102 hK102 => ?_
    refine CW.region ?_
    refine WR.batch 2 [(2, .int .i64 at_), (3, .int .i64 size), (9, .slice ad9 (rowL ds1).length cap10), (10, .slice ad212 512 cap213), (11, .slice ad22 (rowL ds2).length cap23), (12, .slice ad225 512 cap226), (13, .slice ad47 (joinL (rowL ds1) (rowL ds2)).length cap48), (14, .int .i64 ((k : Nat) : Int)), (76, .bool (decide (((k : Nat) : Int) < (512 : Int))))] (by kernel_rfl) ?_
    refine WR.fin (by kernel_rfl) ?_
    refine go hK102 ?_
    refine CW.cond (decide (((k : Nat) : Int) < (512 : Int))) (by kernel_rfl) (fun ht103 => ?_) (fun ht103 => ?_)
    ·
      replace ht103 : ((k : Nat) : Int) < (512 : Int) := (of_decide_eq_true ht103)
      refine CW.skip ?_
      refine go hK101 ?_
      refine CW.seq fun K104 hK104 => ?_
      refine CW.block ?_
      refine CW.seq fun K105 hK105 => ?_
      refine CW.region ?_
      refine WR.batch 2 [(2, .int .i64 at_), (3, .int .i64 size), (9, .slice ad9 (rowL ds1).length cap10), (10, .slice ad212 512 cap213), (11, .slice ad22 (rowL ds2).length cap23), (12, .slice ad225 512 cap226), (13, .slice ad47 (joinL (rowL ds1) (rowL ds2)).length cap48), (14, .int .i64 ((k : Nat) : Int)), (80, .int .i64 (IntKind.i64.wrap (((k : Nat) : Int) - (512 : Int))))] (by kernel_rfl) ?_
      have hw106 : IntKind.i64.wrap (((k : Nat) : Int) - (512 : Int)) = (((k : Nat) : Int) - (512 : Int)) := IntWalk.i64_in _ (by omega)
      refine WR.eqF (F' := [(2, .int .i64 at_), (3, .int .i64 size), (9, .slice ad9 (rowL ds1).length cap10), (10, .slice ad212 512 cap213), (11, .slice ad22 (rowL ds2).length cap23), (12, .slice ad225 512 cap226), (13, .slice ad47 (joinL (rowL ds1) (rowL ds2)).length cap48), (14, .int .i64 ((k : Nat) : Int)), (80, .int .i64 (((k : Nat) : Int) - (512 : Int)))]) (by rw [hw106]) ?_
      refine WR.batch 1 [(2, .int .i64 at_), (3, .int .i64 size), (9, .slice ad9 (rowL ds1).length cap10), (10, .slice ad212 512 cap213), (11, .slice ad22 (rowL ds2).length cap23), (12, .slice ad225 512 cap226), (13, .slice ad47 (joinL (rowL ds1) (rowL ds2)).length cap48), (14, .int .i64 ((k : Nat) : Int)), (15, .int .i64 (((k : Nat) : Int) - (512 : Int)))] (by kernel_rfl) ?_
      refine WR.fin (by kernel_rfl) ?_
      refine go hK105 ?_
      refine CW.seq fun K107 hK107 => ?_
      refine CW.regionQ (by kernel_rfl) (by kernel_rfl) ?_
      refine WQ.val (dst := some 81) (.slice ad9 (rowL ds1).length cap10) (fun _ => by kernel_rfl) ?_
      refine WQ.val (dst := some 82) (.int .i64 (((k : Nat) : Int) - (512 : Int))) (fun _ => by kernel_rfl) ?_
      refine WQ.call (dst := some 83) (f := 13) (args := #[.slice ad9 (rowL ds1).length cap10, .int .i64 (((k : Nat) : Int) - (512 : Int)), .int .i64 (1 : Int)]) (.int .i64 (readE (rowL ds1) (((k : Nat) : Int) - (512 : Int)) (1 : Int))) (fun _ => by kernel_rfl) (fun _ _ h h' => h.pure h') (fun wq hq => Read_any ad9 cap10 (rowL ds1) (((k : Nat) : Int) - (512 : Int)) (1 : Int) wq (hv96.rg.pure hq)) ?_
      refine WQ.val (dst := some 84) (.bool ((readE (rowL ds1) (((k : Nat) : Int) - (512 : Int)) (1 : Int)) == (0 : Int))) (fun _ => by kernel_rfl) ?_
      refine WQ.val (dst := some 85) (.slice ad212 512 cap213) (fun _ => by kernel_rfl) ?_
      refine WQ.val (dst := some 86) (.int .i64 ((k : Nat) : Int)) (fun _ => by kernel_rfl) ?_
      refine WQ.index (dst := some 87) (t := 22) (m := 512) (cap := cap213) (kk := .i64) (i := ((k : Nat) : Int)) hv97.rg (by kernel_rfl) 1 (by kernel_rfl) (by omega) (by omega) (mapNe _ (rowL ds1) (k) (by rw [rowL_len]; omega)) k (by omega) ?_
      refine WQ.load1 (dst := some 88) (t := 4) (a := ⟨bk ad212, of ad212 + k, none⟩) (by kernel_rfl) (by kernel_rfl) (.bool ((rowL ds1).getD k false)) (fun _ hq => ((hv97.rg.pure hq) _ _ (getMap _ (rowL ds1) (k) false (by rw [rowL_len]; omega))).2) ?_
      refine WQ.val (dst := some 89) (.bool (((readE (rowL ds1) (((k : Nat) : Int) - (512 : Int)) (1 : Int)) == (0 : Int)) != ((rowL ds1).getD k false))) (fun _ => by kernel_rfl) ?_
      have hk108 : (((readE (rowL ds1) (((k : Nat) : Int) - (512 : Int)) (1 : Int)) == (0 : Int)) != ((rowL ds1).getD k false)) = false := bne_eq_false_iff_eq.2 (read_one (rowL_len ds1) (by omega))
      rw [hk108]
      refine WQ.val (dst := some 90) (.bool false) (fun _ => by kernel_rfl) ?_
      refine WQ.val (dst := some 91) (.slice ad22 (rowL ds2).length cap23) (fun _ => by kernel_rfl) ?_
      refine WQ.val (dst := some 92) (.int .i64 (((k : Nat) : Int) - (512 : Int))) (fun _ => by kernel_rfl) ?_
      refine WQ.call (dst := some 93) (f := 13) (args := #[.slice ad22 (rowL ds2).length cap23, .int .i64 (((k : Nat) : Int) - (512 : Int)), .int .i64 (1 : Int)]) (.int .i64 (readE (rowL ds2) (((k : Nat) : Int) - (512 : Int)) (1 : Int))) (fun _ => by kernel_rfl) (fun _ _ h h' => h.pure h') (fun wq hq => Read_any ad22 cap23 (rowL ds2) (((k : Nat) : Int) - (512 : Int)) (1 : Int) wq (hv98.rg.pure hq)) ?_
      refine WQ.val (dst := some 94) (.bool ((readE (rowL ds2) (((k : Nat) : Int) - (512 : Int)) (1 : Int)) == (0 : Int))) (fun _ => by kernel_rfl) ?_
      refine WQ.val (dst := some 95) (.slice ad225 512 cap226) (fun _ => by kernel_rfl) ?_
      refine WQ.val (dst := some 96) (.int .i64 ((k : Nat) : Int)) (fun _ => by kernel_rfl) ?_
      refine WQ.index (dst := some 97) (t := 22) (m := 512) (cap := cap226) (kk := .i64) (i := ((k : Nat) : Int)) hv99.rg (by kernel_rfl) 1 (by kernel_rfl) (by omega) (by omega) (mapNe _ (rowL ds2) (k) (by rw [rowL_len]; omega)) k (by omega) ?_
      refine WQ.load1 (dst := some 98) (t := 4) (a := ⟨bk ad225, of ad225 + k, none⟩) (by kernel_rfl) (by kernel_rfl) (.bool ((rowL ds2).getD k false)) (fun _ hq => ((hv99.rg.pure hq) _ _ (getMap _ (rowL ds2) (k) false (by rw [rowL_len]; omega))).2) ?_
      refine WQ.val (dst := some 99) (.bool (((readE (rowL ds2) (((k : Nat) : Int) - (512 : Int)) (1 : Int)) == (0 : Int)) != ((rowL ds2).getD k false))) (fun _ => by kernel_rfl) ?_
      have hk109 : (((readE (rowL ds2) (((k : Nat) : Int) - (512 : Int)) (1 : Int)) == (0 : Int)) != ((rowL ds2).getD k false)) = false := bne_eq_false_iff_eq.2 (read_one (rowL_len ds2) (by omega))
      rw [hk109]
      refine WQ.val (dst := some 100) (.bool false) (fun _ => by kernel_rfl) ?_
      refine WQ.val (dst := some 101) (.bool false) (fun _ => by kernel_rfl) ?_
      refine WQ.val (dst := some 102) (.slice ad47 (joinL (rowL ds1) (rowL ds2)).length cap48) (fun _ => by kernel_rfl) ?_
      refine WQ.val (dst := some 103) (.int .i64 (((k : Nat) : Int) - (512 : Int))) (fun _ => by kernel_rfl) ?_
      refine WQ.call (dst := some 104) (f := 13) (args := #[.slice ad47 (joinL (rowL ds1) (rowL ds2)).length cap48, .int .i64 (((k : Nat) : Int) - (512 : Int)), .int .i64 (1 : Int)]) (.int .i64 (readE (joinL (rowL ds1) (rowL ds2)) (((k : Nat) : Int) - (512 : Int)) (1 : Int))) (fun _ => by kernel_rfl) (fun _ _ h h' => h.pure h') (fun wq hq => Read_any ad47 cap48 (joinL (rowL ds1) (rowL ds2)) (((k : Nat) : Int) - (512 : Int)) (1 : Int) wq (hv100.rg.pure hq)) ?_
      refine WQ.val (dst := some 105) (.bool ((readE (joinL (rowL ds1) (rowL ds2)) (((k : Nat) : Int) - (512 : Int)) (1 : Int)) == (0 : Int))) (fun _ => by kernel_rfl) ?_
      refine WQ.val (dst := some 106) (.slice ad212 512 cap213) (fun _ => by kernel_rfl) ?_
      refine WQ.val (dst := some 107) (.int .i64 ((k : Nat) : Int)) (fun _ => by kernel_rfl) ?_
      refine WQ.index (dst := some 108) (t := 22) (m := 512) (cap := cap213) (kk := .i64) (i := ((k : Nat) : Int)) hv97.rg (by kernel_rfl) 1 (by kernel_rfl) (by omega) (by omega) (mapNe _ (rowL ds1) (k) (by rw [rowL_len]; omega)) k (by omega) ?_
      refine WQ.load1 (dst := some 109) (t := 4) (a := ⟨bk ad212, of ad212 + k, none⟩) (by kernel_rfl) (by kernel_rfl) (.bool ((rowL ds1).getD k false)) (fun _ hq => ((hv97.rg.pure hq) _ _ (getMap _ (rowL ds1) (k) false (by rw [rowL_len]; omega))).2) ?_
      refine WQ.val (dst := some 110) (.bool ((rowL ds1).getD k false)) (fun _ => by kernel_rfl) ?_
      refine WQ.merge 35 [(2, .int .i64 at_), (3, .int .i64 size), (9, .slice ad9 (rowL ds1).length cap10), (10, .slice ad212 512 cap213), (11, .slice ad22 (rowL ds2).length cap23), (12, .slice ad225 512 cap226), (13, .slice ad47 (joinL (rowL ds1) (rowL ds2)).length cap48), (14, .int .i64 ((k : Nat) : Int)), (101, .bool false), (105, .bool ((readE (joinL (rowL ds1) (rowL ds2)) (((k : Nat) : Int) - (512 : Int)) (1 : Int)) == (0 : Int))), (115, .bool (((rowL ds1).getD k false) && ((rowL ds2).getD k false)))] (fun Q' => ?_) ?_
      ·
        cases hg110 : (rowL ds1).getD k false
        ·
          intro hM111
          refine WQ.pass1 (dst := some 111) (by kernel_rfl) ?_
          refine WQ.pass1 (dst := some 112) (by kernel_rfl) ?_
          refine WQ.pass1 (dst := some 113) (by kernel_rfl) ?_
          refine WQ.pass1 (dst := some 114) (by kernel_rfl) ?_
          refine WQ.val (dst := some 115) (.bool false) (fun _ => by kernel_rfl) ?_
          exact WQ.keep [2, 3, 9, 10, 11, 12, 13, 14, 101, 105, 115] (by kernel_rfl) hM111
        ·
          intro hM111
          refine WQ.val (dst := some 111) (.slice ad225 512 cap226) (fun _ => by kernel_rfl) ?_
          refine WQ.val (dst := some 112) (.int .i64 ((k : Nat) : Int)) (fun _ => by kernel_rfl) ?_
          refine WQ.index (dst := some 113) (t := 22) (m := 512) (cap := cap226) (kk := .i64) (i := ((k : Nat) : Int)) hv99.rg (by kernel_rfl) 1 (by kernel_rfl) (by omega) (by omega) (mapNe _ (rowL ds2) (k) (by rw [rowL_len]; omega)) k (by omega) ?_
          refine WQ.load1 (dst := some 114) (t := 4) (a := ⟨bk ad225, of ad225 + k, none⟩) (by kernel_rfl) (by kernel_rfl) (.bool ((rowL ds2).getD k false)) (fun _ hq => ((hv99.rg.pure hq) _ _ (getMap _ (rowL ds2) (k) false (by rw [rowL_len]; omega))).2) ?_
          refine WQ.val (dst := some 115) (.bool ((rowL ds2).getD k false)) (fun _ => by kernel_rfl) ?_
          exact WQ.keep [2, 3, 9, 10, 11, 12, 13, 14, 101, 105, 115] (by kernel_rfl) hM111
      ·
        refine WQ.val (dst := some 116) (.bool (((readE (joinL (rowL ds1) (rowL ds2)) (((k : Nat) : Int) - (512 : Int)) (1 : Int)) == (0 : Int)) != (((rowL ds1).getD k false) && ((rowL ds2).getD k false)))) (fun _ => by kernel_rfl) ?_
        have hk112 : (((readE (joinL (rowL ds1) (rowL ds2)) (((k : Nat) : Int) - (512 : Int)) (1 : Int)) == (0 : Int)) != (((rowL ds1).getD k false) && ((rowL ds2).getD k false))) = false := bne_eq_false_iff_eq.2 ((read_one (joinL_512 (rowL_len ds1) (rowL_len ds2)) (by omega)).trans (joinL_getD (rowL_len ds1) (rowL_len ds2) _))
        rw [hk112]
        refine WQ.val (dst := some 117) (.bool false) (fun _ => by kernel_rfl) ?_
        refine WQ.fin (by kernel_rfl) ?_
        intro w113 hc114
        have hz116 := hc114.size
        have hC115 := hC95.pure hc114
        have ho117 := hv96.pure hc114
        have ho118 := hv97.pure hc114
        have ho119 := hv98.pure hc114
        have ho120 := hv99.pure hc114
        have ho121 := hv100.pure hc114
        refine go hK107 ?_
        refine CW.no (by kernel_rfl) ?_
        refine CW.skip ?_
        refine go hK104 ?_
        refine CW.region ?_
        refine WR.batch 2 [(2, .int .i64 at_), (3, .int .i64 size), (9, .slice ad9 (rowL ds1).length cap10), (10, .slice ad212 512 cap213), (11, .slice ad22 (rowL ds2).length cap23), (12, .slice ad225 512 cap226), (13, .slice ad47 (joinL (rowL ds1) (rowL ds2)).length cap48), (78, .int .i64 (IntKind.i64.wrap (((k : Nat) : Int) + (1 : Int))))] (by kernel_rfl) ?_
        have hw122 : IntKind.i64.wrap (((k : Nat) : Int) + (1 : Int)) = (((k : Nat) : Int) + (1 : Int)) := IntWalk.i64_in _ (by omega)
        refine WR.eqF (F' := [(2, .int .i64 at_), (3, .int .i64 size), (9, .slice ad9 (rowL ds1).length cap10), (10, .slice ad212 512 cap213), (11, .slice ad22 (rowL ds2).length cap23), (12, .slice ad225 512 cap226), (13, .slice ad47 (joinL (rowL ds1) (rowL ds2)).length cap48), (78, .int .i64 (((k : Nat) : Int) + (1 : Int)))]) (by rw [hw122]) ?_
        refine WR.batch 1 [(2, .int .i64 at_), (3, .int .i64 size), (9, .slice ad9 (rowL ds1).length cap10), (10, .slice ad212 512 cap213), (11, .slice ad22 (rowL ds2).length cap23), (12, .slice ad225 512 cap226), (13, .slice ad47 (joinL (rowL ds1) (rowL ds2)).length cap48), (14, .int .i64 (((k : Nat) : Int) + (1 : Int)))] (by kernel_rfl) ?_
        refine WR.fin (by kernel_rfl) ?_
        exact fun _ ha => ⟨k + 1, ⟨hC115, (by omega), ho117, ho118, ho119, ho120, ho121⟩, (by dsimp only; omega), ha.keep [2, 3, 9, 10, 11, 12, 13, 14] (by kernel_rfl)⟩
    ·
      replace ht103 : ¬ (((k : Nat) : Int) < (512 : Int)) := (of_decide_eq_false ht103)
      refine CW.exit ?_
      refine go hK92 ?_
      refine CW.seq fun K123 hK123 => ?_
      refine CW.region ?_
      refine WR.batch 3 [(2, .int .i64 at_), (3, .int .i64 size), (9, .slice ad9 (rowL ds1).length cap10), (11, .slice ad22 (rowL ds2).length cap23), (13, .slice ad47 (joinL (rowL ds1) (rowL ds2)).length cap48), (118, .slice ad9 (rowL ds1).length cap10), (119, .int .i64 at_), (120, .int .i64 size)] (by kernel_rfl) ?_
      refine WR.call (dst := some 121) (by kernel_rfl) (Read_any ad9 cap10 (rowL ds1) at_ size w94 hv96.rg) ?_
      rintro _ w124 hc125 rfl
      have hz127 := hc125.size
      have hC126 := hC95.pure hc125
      have ho128 := hv96.pure hc125
      have ho129 := hv97.pure hc125
      have ho130 := hv98.pure hc125
      have ho131 := hv99.pure hc125
      have ho132 := hv100.pure hc125
      refine WR.batch 2 [(2, .int .i64 at_), (3, .int .i64 size), (9, .slice ad9 (rowL ds1).length cap10), (11, .slice ad22 (rowL ds2).length cap23), (13, .slice ad47 (joinL (rowL ds1) (rowL ds2)).length cap48), (123, .bool ((readE (rowL ds1) at_ size) == (0 : Int)))] (by kernel_rfl) ?_
      cases hg133 : ((readE (rowL ds1) at_ size) == (0 : Int))
      ·
        replace hg133 : (readE (rowL ds1) at_ size) ≠ (0 : Int) := (bEqF hg133)
        refine WR.batch 7 [(2, .int .i64 at_), (3, .int .i64 size), (9, .slice ad9 (rowL ds1).length cap10), (11, .slice ad22 (rowL ds2).length cap23), (13, .slice ad47 (joinL (rowL ds1) (rowL ds2)).length cap48), (16, .bool false)] (by kernel_rfl) ?_
        refine WR.fin (by kernel_rfl) ?_
        refine go hK123 ?_
        refine CW.seq fun K134 hK134 => ?_
        refine CW.region ?_
        refine WR.batch 4 [(9, .slice ad9 (rowL ds1).length cap10), (11, .slice ad22 (rowL ds2).length cap23), (13, .slice ad47 (joinL (rowL ds1) (rowL ds2)).length cap48), (130, .bool false), (131, .slice ad47 (joinL (rowL ds1) (rowL ds2)).length cap48), (132, .int .i64 at_), (133, .int .i64 size)] (by kernel_rfl) ?_
        refine WR.call (dst := some 134) (by kernel_rfl) (Read_any ad47 cap48 (joinL (rowL ds1) (rowL ds2)) at_ size w124 ho132.rg) ?_
        rintro _ w135 hc136 rfl
        have hz138 := hc136.size
        have hC137 := hC126.pure hc136
        have ho139 := ho128.pure hc136
        have ho140 := ho129.pure hc136
        have ho141 := ho130.pure hc136
        have ho142 := ho131.pure hc136
        have ho143 := ho132.pure hc136
        refine WR.batch 2 [(9, .slice ad9 (rowL ds1).length cap10), (11, .slice ad22 (rowL ds2).length cap23), (13, .slice ad47 (joinL (rowL ds1) (rowL ds2)).length cap48), (136, .bool (false == ((readE (joinL (rowL ds1) (rowL ds2)) at_ size) == (0 : Int))))] (by kernel_rfl) ?_
        have hk144 : (false == ((readE (joinL (rowL ds1) (rowL ds2)) at_ size) == (0 : Int))) = true := (read_join_no (rowL_len ds1) (rowL_len ds2) (by assumption))
        refine WR.eqF (F' := [(9, .slice ad9 (rowL ds1).length cap10), (11, .slice ad22 (rowL ds2).length cap23), (13, .slice ad47 (joinL (rowL ds1) (rowL ds2)).length cap48), (136, .bool true)]) (by rw [hk144]) ?_
        refine WR.batch 3 [(9, .slice ad9 (rowL ds1).length cap10), (11, .slice ad22 (rowL ds2).length cap23), (137, .bool true), (138, .slice ad47 (joinL (rowL ds1) (rowL ds2)).length cap48), (139, .slice ad9 (rowL ds1).length cap10)] (by kernel_rfl) ?_
        refine WR.call (dst := some 140) (by kernel_rfl) (Within_any ad47 ad9 cap48 cap10 (joinL (rowL ds1) (rowL ds2)) (rowL ds1) w135 ho143.rg ho139.rg) ?_
        rintro _ w145 hc146 rfl
        have hz148 := hc146.size
        have hC147 := hC137.pure hc146
        have ho149 := ho139.pure hc146
        have ho150 := ho140.pure hc146
        have ho151 := ho141.pure hc146
        have ho152 := ho142.pure hc146
        have ho153 := ho143.pure hc146
        refine WR.batch 2 [(137, .bool true), (140, .bool (withinE (joinL (rowL ds1) (rowL ds2)) (rowL ds1))), (141, .slice ad22 (rowL ds2).length cap23), (142, .slice ad9 (rowL ds1).length cap10)] (by kernel_rfl) ?_
        refine WR.call (dst := some 143) (by kernel_rfl) (Within_any ad22 ad9 cap23 cap10 (rowL ds2) (rowL ds1) w145 ho151.rg ho149.rg) ?_
        rintro _ w154 hc155 rfl
        have hz157 := hc155.size
        have hC156 := hC147.pure hc155
        have ho158 := ho149.pure hc155
        have ho159 := ho150.pure hc155
        have ho160 := ho151.pure hc155
        have ho161 := ho152.pure hc155
        have ho162 := ho153.pure hc155
        refine WR.batch 1 [(137, .bool true), (144, .bool ((withinE (joinL (rowL ds1) (rowL ds2)) (rowL ds1)) == (withinE (rowL ds2) (rowL ds1))))] (by kernel_rfl) ?_
        have hk163 : ((withinE (joinL (rowL ds1) (rowL ds2)) (rowL ds1)) == (withinE (rowL ds2) (rowL ds1))) = true := (within_swap (rowL_len ds1) (rowL_len ds2))
        refine WR.eqF (F' := [(137, .bool true), (144, .bool true)]) (by rw [hk163]) ?_
        refine WR.batch 2 [(8, .bool true)] (by kernel_rfl) ?_
        refine WR.fin (by kernel_rfl) ?_
        refine go hK134 ?_
        refine CW.ret ?_
        exact retV (.bool true) (by kernel_rfl) ⟨hC156, rfl⟩
      ·
        replace hg133 : (readE (rowL ds1) at_ size) = (0 : Int) := (bEqT hg133)
        refine WR.batch 3 [(2, .int .i64 at_), (3, .int .i64 size), (9, .slice ad9 (rowL ds1).length cap10), (11, .slice ad22 (rowL ds2).length cap23), (13, .slice ad47 (joinL (rowL ds1) (rowL ds2)).length cap48), (123, .bool true), (124, .slice ad22 (rowL ds2).length cap23), (125, .int .i64 at_), (126, .int .i64 size)] (by kernel_rfl) ?_
        refine WR.call (dst := some 127) (by kernel_rfl) (Read_any ad22 cap23 (rowL ds2) at_ size w124 ho130.rg) ?_
        rintro _ w164 hc165 rfl
        have hz167 := hc165.size
        have hC166 := hC126.pure hc165
        have ho168 := ho128.pure hc165
        have ho169 := ho129.pure hc165
        have ho170 := ho130.pure hc165
        have ho171 := ho131.pure hc165
        have ho172 := ho132.pure hc165
        refine WR.batch 3 [(2, .int .i64 at_), (3, .int .i64 size), (9, .slice ad9 (rowL ds1).length cap10), (11, .slice ad22 (rowL ds2).length cap23), (13, .slice ad47 (joinL (rowL ds1) (rowL ds2)).length cap48), (16, .bool ((readE (rowL ds2) at_ size) == (0 : Int)))] (by kernel_rfl) ?_
        refine WR.fin (by kernel_rfl) ?_
        refine go hK123 ?_
        refine CW.seq fun K173 hK173 => ?_
        refine CW.region ?_
        refine WR.batch 4 [(9, .slice ad9 (rowL ds1).length cap10), (11, .slice ad22 (rowL ds2).length cap23), (13, .slice ad47 (joinL (rowL ds1) (rowL ds2)).length cap48), (130, .bool ((readE (rowL ds2) at_ size) == (0 : Int))), (131, .slice ad47 (joinL (rowL ds1) (rowL ds2)).length cap48), (132, .int .i64 at_), (133, .int .i64 size)] (by kernel_rfl) ?_
        refine WR.call (dst := some 134) (by kernel_rfl) (Read_any ad47 cap48 (joinL (rowL ds1) (rowL ds2)) at_ size w164 ho172.rg) ?_
        rintro _ w174 hc175 rfl
        have hz177 := hc175.size
        have hC176 := hC166.pure hc175
        have ho178 := ho168.pure hc175
        have ho179 := ho169.pure hc175
        have ho180 := ho170.pure hc175
        have ho181 := ho171.pure hc175
        have ho182 := ho172.pure hc175
        refine WR.batch 2 [(9, .slice ad9 (rowL ds1).length cap10), (11, .slice ad22 (rowL ds2).length cap23), (13, .slice ad47 (joinL (rowL ds1) (rowL ds2)).length cap48), (136, .bool (((readE (rowL ds2) at_ size) == (0 : Int)) == ((readE (joinL (rowL ds1) (rowL ds2)) at_ size) == (0 : Int))))] (by kernel_rfl) ?_
        have hk183 : (((readE (rowL ds2) at_ size) == (0 : Int)) == ((readE (joinL (rowL ds1) (rowL ds2)) at_ size) == (0 : Int))) = true := (read_join_yes (rowL_len ds1) (rowL_len ds2) (by assumption))
        refine WR.eqF (F' := [(9, .slice ad9 (rowL ds1).length cap10), (11, .slice ad22 (rowL ds2).length cap23), (13, .slice ad47 (joinL (rowL ds1) (rowL ds2)).length cap48), (136, .bool true)]) (by rw [hk183]) ?_
        refine WR.batch 3 [(9, .slice ad9 (rowL ds1).length cap10), (11, .slice ad22 (rowL ds2).length cap23), (137, .bool true), (138, .slice ad47 (joinL (rowL ds1) (rowL ds2)).length cap48), (139, .slice ad9 (rowL ds1).length cap10)] (by kernel_rfl) ?_
        refine WR.call (dst := some 140) (by kernel_rfl) (Within_any ad47 ad9 cap48 cap10 (joinL (rowL ds1) (rowL ds2)) (rowL ds1) w174 ho182.rg ho178.rg) ?_
        rintro _ w184 hc185 rfl
        have hz187 := hc185.size
        have hC186 := hC176.pure hc185
        have ho188 := ho178.pure hc185
        have ho189 := ho179.pure hc185
        have ho190 := ho180.pure hc185
        have ho191 := ho181.pure hc185
        have ho192 := ho182.pure hc185
        refine WR.batch 2 [(137, .bool true), (140, .bool (withinE (joinL (rowL ds1) (rowL ds2)) (rowL ds1))), (141, .slice ad22 (rowL ds2).length cap23), (142, .slice ad9 (rowL ds1).length cap10)] (by kernel_rfl) ?_
        refine WR.call (dst := some 143) (by kernel_rfl) (Within_any ad22 ad9 cap23 cap10 (rowL ds2) (rowL ds1) w184 ho190.rg ho188.rg) ?_
        rintro _ w193 hc194 rfl
        have hz196 := hc194.size
        have hC195 := hC186.pure hc194
        have ho197 := ho188.pure hc194
        have ho198 := ho189.pure hc194
        have ho199 := ho190.pure hc194
        have ho200 := ho191.pure hc194
        have ho201 := ho192.pure hc194
        refine WR.batch 1 [(137, .bool true), (144, .bool ((withinE (joinL (rowL ds1) (rowL ds2)) (rowL ds1)) == (withinE (rowL ds2) (rowL ds1))))] (by kernel_rfl) ?_
        have hk202 : ((withinE (joinL (rowL ds1) (rowL ds2)) (rowL ds1)) == (withinE (rowL ds2) (rowL ds1))) = true := (within_swap (rowL_len ds1) (rowL_len ds2))
        refine WR.eqF (F' := [(137, .bool true), (144, .bool true)]) (by rw [hk202]) ?_
        refine WR.batch 2 [(8, .bool true)] (by kernel_rfl) ?_
        refine WR.fin (by kernel_rfl) ?_
        refine go hK173 ?_
        refine CW.ret ?_
        exact retV (.bool true) (by kernel_rfl) ⟨hC195, rfl⟩
end Go.V
