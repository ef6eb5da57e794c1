import Derived.Test.YtbklhipicfimeaaProg
import Derived.Test.YtbklhipicfimeaaSt
namespace Go.V
open Go.RowKit Go.Proofs
/-- what is joined within the first row. -/
def joinS (xs ys : List Bool) (k : Nat) : List Bool := joinTo xs ys k ++ xs.drop k
theorem joinS_zero (xs ys : List Bool) : joinS xs ys 0 = xs := rfl
theorem joinS_all {xs ys : List Bool} (h : xs.length = 512) : joinS xs ys 512 = joinTo xs ys 512 := by simp [joinS, ← h]
theorem joinS_len {xs ys : List Bool} {k : Nat} (h : xs.length = 512) (hk : k ≤ 512) : (joinS xs ys k).length = 512 := by simp [joinS]; omega
theorem joinS_get {xs ys : List Bool} {k : Nat} (hk : k < xs.length) : (joinS xs ys k).getD k false = xs.getD k false := by
  simp [joinS, List.getD_eq_getElem?_getD, List.getElem?_append_right, hk]
theorem joinS_set {xs ys : List Bool} {k : Nat} (hk : k < xs.length) : (joinS xs ys k).set k (xs.getD k false && ys.getD k false) = joinS xs ys (k + 1) := by
  unfold joinS
  rw [List.set_append_right _ _ (by simp), joinTo_succ, joinTo_len, Nat.sub_self, List.drop_eq_getElem_cons hk, List.set_cons_zero, List.append_assoc, List.singleton_append]
theorem joinS_step {xs ys : List Bool} {k : Nat} (hk : k < xs.length) (_hk : k < 512) : (joinS xs ys k).set k ((joinS xs ys k).getD k false && ys.getD k false) = joinS xs ys (k + 1) := by
  rw [joinS_get hk, joinS_set hk]

theorem boTake {l : List Bool} {n : Nat} (h : l.length ≤ n) : (bo l).take n = bo l := List.take_of_length_le (by simpa using h)

theorem Set1_ok (g0 g1 g2 : Nat) (b o cap : Nat) (xs : List Bool) (at_ size : Int) (w : World) (hb0 : Blk w g0 #[.slice (some ⟨b, o, none⟩) 512 cap] 22) (hb1 : Blk w g1 #[.int .i64 at_] 2) (hb2 : Blk w g2 #[.int .i64 size] 3) (hr : Rg w (some ⟨b, o, none⟩) (bo xs)) (hl : xs.length = 512) (hp0 : placeE xs.length at_ size = 0) : Calls Try.prog 26 #[.pointer (some ⟨g0, 0, none⟩), .pointer (some ⟨g1, 0, none⟩), .pointer (some ⟨g2, 0, none⟩)] w (Ret [] w fun v w' => OwnB w.heap.size (setL xs at_ size) v w') := by
  have hp := place_ok hp0
  refine calls_of_CW Try.func26 rfl (n := 24) Try.ntmps26 (by kernel_rfl) [0, 1, 2] (F := [(0, .pointer (some ⟨g0, 0, none⟩)), (1, .pointer (some ⟨g1, 0, none⟩)), (2, .pointer (some ⟨g2, 0, none⟩))]) (by kernel_rfl) ?_
  have hg1 := hb0.lt
  have hg2 := hb1.lt
  have hg3 := hb2.lt
  refine CW.seq fun K4 hK4 => ?_
  refine CW.region ?_
  refine WR.batch 1 [(0, .pointer (some ⟨g0, 0, none⟩)), (1, .pointer (some ⟨g1, 0, none⟩)), (2, .pointer (some ⟨g2, 0, none⟩))] (by kernel_rfl) ?_
  refine WR.fin (by kernel_rfl) ?_
  refine go hK4 ?_
  refine CW.seq fun K5 hK5 => ?_
  refine CW.region ?_
  refine WR.load (dst := some 7) (t := 22) (o := 0) hb0 (by kernel_rfl) (.slice (some ⟨b, o, none⟩) 512 cap) (by kernel_rfl) ?_
  refine WR.call (dst := some 8) (by kernel_rfl) (of_yes b o cap w) ?_
  rintro _ w6 hc7 rfl
  have hz9 := hc7.size
  have hC8 := (Chg.refl [] w).pure hc7
  have hb10 := hb0.pure hc7
  have hb11 := hb1.pure hc7
  have hb12 := hb2.pure hc7
  refine WR.batch 1 [(1, .pointer (some ⟨g1, 0, none⟩)), (2, .pointer (some ⟨g2, 0, none⟩)), (9, .pointer (some ⟨b, o, none⟩))] (by kernel_rfl) ?_
  refine WR.loadA (dst := some 10) (t := 47) (ad := (some ⟨b, o, none⟩)) (j := 0) (sz := 512) (hr.pure hC8) (by kernel_rfl) (by kernel_rfl) (by kernel_rfl) (by kernel_rfl) (bo (xs)) (by simp; omega) (by rw [List.drop_zero]; exact boTake (by omega)) ?_
  refine WR.alloc (dst := some 4) (e := 47) (by kernel_rfl) (Array.replicate 512 (.bool false)) (by kernel_rfl) ?_
  intro g13 w14 hN15
  have hl18 : g0 < g13 := Nat.lt_of_lt_of_le hb10.lt hN15.fresh
  have hl19 : g1 < g13 := Nat.lt_of_lt_of_le hb11.lt hN15.fresh
  have hl20 : g2 < g13 := Nat.lt_of_lt_of_le hb12.lt hN15.fresh
  have hf17 : w.heap.size ≤ g13 := Nat.le_trans hC8.size hN15.fresh
  have hfr22 := hN15.fresh
  have hc21 := hN15.chg
  have hz24 := hc21.size
  have hC23 := hC8.pure hc21
  have hb25 := hb10.pure hc21
  have hb26 := hb11.pure hc21
  have hb27 := hb12.pure hc21
  have hb16 := hN15.blk
  have hg28 := hb16.lt
  refine WR.storeW (t := 47) (vs := bo (xs)) hb16 (by kernel_rfl) (by kernel_rfl) (by simp; omega) (boOne _) ?_
  intro w29 hb30 hc31
  have hz33 := hc31.size
  have hC32 := hC23.step hc31 (by intro t ht; simp only [List.mem_cons, List.not_mem_nil, or_false] at ht; subst ht; first | exact .inr (by omega) | exact .inl (by simp))
  have hb34 := hb25.chg hc31 (by simp only [List.mem_cons, List.not_mem_nil, or_false]; omega)
  have hb35 := hb26.chg hc31 (by simp only [List.mem_cons, List.not_mem_nil, or_false]; omega)
  have hb36 := hb27.chg hc31 (by simp only [List.mem_cons, List.not_mem_nil, or_false]; omega)
  refine WR.fin (by kernel_rfl) ?_
  refine go hK5 ?_
  refine CW.seq fun K37 hK37 => ?_
  refine CW.region ?_
  refine WR.load (dst := some 11) (t := 2) (o := 0) hb35 (by kernel_rfl) (.int .i64 at_) (by kernel_rfl) ?_
  refine WR.load (dst := some 12) (t := 3) (o := 0) hb36 (by kernel_rfl) (.int .i64 size) (by kernel_rfl) ?_
  refine WR.call (dst := some 13) (by kernel_rfl) (part_yes g13 0 at_ size w29 ((at_ + 512).toNat) (by omega) (by omega) (by omega)) ?_
  rintro _ w38 hc39 rfl
  have hz41 := hc39.size
  have hC40 := hC32.pure hc39
  have hb42 := hb34.pure hc39
  have hb43 := hb35.pure hc39
  have hb44 := hb36.pure hc39
  have hb45 := hb30.pure hc39
  refine WR.batch 1 [(4, .pointer (some ⟨g13, 0, none⟩)), (5, .slice (some ⟨g13, (at_ + 512).toNat, none⟩) size.toNat (512 - (512 + at_).toNat))] (by kernel_rfl) ?_
  refine WR.fin (by kernel_rfl) ?_
  refine go hK37 ?_
  refine CW.seq fun K46 hK46 => ?_
  refine CW.seq fun K47 hK47 => ?_
  refine CW.region ?_
  refine WR.batch 3 [(4, .pointer (some ⟨g13, 0, none⟩)), (5, .slice (some ⟨g13, (at_ + 512).toNat, none⟩) size.toNat (512 - (512 + at_).toNat)), (15, .int .i64 ((size.toNat : Nat) : Int)), (16, .int .i64 (0 : Int))] (by kernel_rfl) ?_
  refine WR.fin (by kernel_rfl) ?_
  refine go hK47 ?_
  refine CW.block ?_
  refine CW.loop (σ := Nat) (fun k w48 => Chg [] w w48 ∧ ((k : Int) ≤ size) ∧ (Blk w48 g13 (bo (setTo xs (at_ + 512).toNat k)).toArray 47)) (fun k => [(4, .pointer (some ⟨g13, 0, none⟩)), (5, .slice (some ⟨g13, (at_ + 512).toNat, none⟩) size.toNat (512 - (512 + at_).toNat)), (15, .int .i64 ((size.toNat : Nat) : Int)), (16, .int .i64 ((k : Nat) : Int))]) (fun k => size.toNat - k) (0) ⟨hC40, (by omega), hb45⟩ [4, 5, 15, 16] (by kernel_rfl) ?_
  rintro k w48 ⟨hC49, hk, hb⟩
  refine CW.seq fun K50 hK50 => ?_
  refine CW.region ?_
  refine WR.batch 1 [(4, .pointer (some ⟨g13, 0, none⟩)), (5, .slice (some ⟨g13, (at_ + 512).toNat, none⟩) size.toNat (512 - (512 + at_).toNat)), (15, .int .i64 ((size.toNat : Nat) : Int)), (16, .int .i64 ((k : Nat) : Int)), (17, .bool (decide (((k : Nat) : Int) < ((size.toNat : Nat) : Int))))] (by kernel_rfl) ?_
  refine WR.fin (by kernel_rfl) ?_
  refine go hK50 ?_
  refine CW.seq fun K51 hK51 => ?_
  refine CW.cond (decide (((k : Nat) : Int) < ((size.toNat : Nat) : Int))) (by kernel_rfl) (fun ht52 => ?_) (fun ht52 => ?_)
  ·
    replace ht52 : ((k : Nat) : Int) < ((size.toNat : Nat) : Int) := (of_decide_eq_true ht52)
    refine CW.skip ?_
    refine go hK51 ?_
    refine CW.seq fun K53 hK53 => ?_
    refine CW.block ?_
    refine CW.seq fun K54 hK54 => ?_
    refine CW.region ?_
    refine WR.batch 2 [(4, .pointer (some ⟨g13, 0, none⟩)), (5, .slice (some ⟨g13, (at_ + 512).toNat, none⟩) size.toNat (512 - (512 + at_).toNat)), (6, .int .i64 ((k : Nat) : Int)), (15, .int .i64 ((size.toNat : Nat) : Int)), (16, .int .i64 ((k : Nat) : Int))] (by kernel_rfl) ?_
    refine WR.fin (by kernel_rfl) ?_
    refine go hK54 ?_
    refine CW.region ?_
    refine WR.batch 2 [(4, .pointer (some ⟨g13, 0, none⟩)), (5, .slice (some ⟨g13, (at_ + 512).toNat, none⟩) size.toNat (512 - (512 + at_).toNat)), (15, .int .i64 ((size.toNat : Nat) : Int)), (16, .int .i64 ((k : Nat) : Int)), (19, .slice (some ⟨g13, (at_ + 512).toNat, none⟩) size.toNat (512 - (512 + at_).toNat)), (20, .int .i64 ((k : Nat) : Int))] (by kernel_rfl) ?_
    refine WR.indexS (dst := some 21) (t := 22) (b := g13) (o := (at_ + 512).toNat) (m := size.toNat) (cap := 512 - (512 + at_).toNat) (kk := .i64) (i := ((k : Nat) : Int)) (by kernel_rfl) 1 (by kernel_rfl) (k) (by omega) (by omega) ((at_ + 512).toNat + k) (by omega) ?_
    refine WR.storeB (t := 4) (o := (at_ + 512).toNat + k) (v := .bool true) hb (by kernel_rfl) (by kernel_rfl) rfl rfl (by simp only [List.size_toArray, List.length_map, setTo_len]; omega) ?_
    intro w55 hb56 hc57
    have hz60 := hc57.size
    have hC59 := hC49.step hc57 (by intro t ht; simp only [List.mem_cons, List.not_mem_nil, or_false] at ht; subst ht; first | exact .inr (by omega) | exact .inl (by simp))
    have hb58 : Blk w55 g13 (bo ((setTo xs (at_ + 512).toNat k).set ((at_ + 512).toNat + k) true)).toArray 47 := by rw [boArrSet]; exact hb56
    refine WR.fin (by kernel_rfl) ?_
    refine go hK53 ?_
    refine CW.region ?_
    refine WR.batch 1 [(4, .pointer (some ⟨g13, 0, none⟩)), (5, .slice (some ⟨g13, (at_ + 512).toNat, none⟩) size.toNat (512 - (512 + at_).toNat)), (15, .int .i64 ((size.toNat : Nat) : Int)), (22, .int .i64 (IntKind.i64.wrap (((k : Nat) : Int) + (1 : Int))))] (by kernel_rfl) ?_
    have hw61 : IntKind.i64.wrap (((k : Nat) : Int) + (1 : Int)) = (((k : Nat) : Int) + (1 : Int)) := IntWalk.i64_in _ (by omega)
    refine WR.eqF (F' := [(4, .pointer (some ⟨g13, 0, none⟩)), (5, .slice (some ⟨g13, (at_ + 512).toNat, none⟩) size.toNat (512 - (512 + at_).toNat)), (15, .int .i64 ((size.toNat : Nat) : Int)), (22, .int .i64 (((k : Nat) : Int) + (1 : Int)))]) (by rw [hw61]) ?_
    refine WR.batch 1 [(4, .pointer (some ⟨g13, 0, none⟩)), (5, .slice (some ⟨g13, (at_ + 512).toNat, none⟩) size.toNat (512 - (512 + at_).toNat)), (15, .int .i64 ((size.toNat : Nat) : Int)), (16, .int .i64 (((k : Nat) : Int) + (1 : Int)))] (by kernel_rfl) ?_
    refine WR.fin (by kernel_rfl) ?_
    exact fun _ ha => ⟨k + 1, ⟨hC59, (by omega), by rw [setTo]; exact hb58⟩, (by dsimp only; omega), ha.keep [4, 5, 15, 16] (by kernel_rfl)⟩
  ·
    replace ht52 : ¬ (((k : Nat) : Int) < ((size.toNat : Nat) : Int)) := (of_decide_eq_false ht52)
    refine CW.exit ?_
    refine go hK46 ?_
    refine CW.seq fun K62 hK62 => ?_
    refine CW.region ?_
    refine WR.batch 2 [(3, .slice (some ⟨g13, 0, none⟩) 512 512)] (by kernel_rfl) ?_
    refine WR.fin (by kernel_rfl) ?_
    refine go hK62 ?_
    refine CW.ret ?_
    exact retV (.slice (some ⟨g13, 0, none⟩) 512 512) (by kernel_rfl) ⟨hC49, by have e : setL xs at_ size = setTo xs (at_ + 512).toNat k := (by rw [setL_ok hp0, show size.toNat = k by omega]); have e2 : (setTo xs (at_ + 512).toNat k).length = 512 := (by rw [setTo_len]; exact hl); rw [e]; exact ⟨_, _, 47, by rw [e2], by rw [e2]; exact Own.ofBlk hb (by omega) (by omega) (by omega) (by simp [e2]) _ (boTake (by omega))⟩⟩

theorem Set1_len (g0 g1 g2 : Nat) (ad : Option Addr) (cap : Nat) (xs : List Bool) (at_ size : Int) (w : World) (hb0 : Blk w g0 #[.slice ad xs.length cap] 22) (hb1 : Blk w g1 #[.int .i64 at_] 2) (hb2 : Blk w g2 #[.int .i64 size] 3) (_hl : xs.length ≠ 512) : Calls Try.prog 26 #[.pointer (some ⟨g0, 0, none⟩), .pointer (some ⟨g1, 0, none⟩), .pointer (some ⟨g2, 0, none⟩)] w (Pan w (.iface 25 (.int .i64 2))) := by
  refine calls_of_CW Try.func26 rfl (n := 24) Try.ntmps26 (by kernel_rfl) [0, 1, 2] (F := [(0, .pointer (some ⟨g0, 0, none⟩)), (1, .pointer (some ⟨g1, 0, none⟩)), (2, .pointer (some ⟨g2, 0, none⟩))]) (by kernel_rfl) ?_
  have hg1 := hb0.lt
  have hg2 := hb1.lt
  have hg3 := hb2.lt
  refine CW.seq fun K4 hK4 => ?_
  refine CW.region ?_
  refine WR.batch 1 [(0, .pointer (some ⟨g0, 0, none⟩)), (1, .pointer (some ⟨g1, 0, none⟩)), (2, .pointer (some ⟨g2, 0, none⟩))] (by kernel_rfl) ?_
  refine WR.fin (by kernel_rfl) ?_
  refine go hK4 ?_
  refine CW.seq fun K5 hK5 => ?_
  refine CW.region ?_
  refine WR.load (dst := some 7) (t := 22) (o := 0) hb0 (by kernel_rfl) (.slice ad xs.length cap) (by kernel_rfl) ?_
  refine WR.callX (dst := some 8) (by kernel_rfl) (of_no ad xs.length cap w (by omega)) ?_
  intro w6 hc7
  have hz9 := hc7.size
  have hC8 := (Chg.refl [] w).pure hc7
  have hb10 := hb0.pure hc7
  have hb11 := hb1.pure hc7
  have hb12 := hb2.pure hc7
  exact panicV (P := Try.prog) (fn := Try.f26) ⟨rfl, hC8⟩

theorem Set1_size (g0 g1 g2 : Nat) (b o cap : Nat) (xs : List Bool) (at_ size : Int) (w : World) (hb0 : Blk w g0 #[.slice (some ⟨b, o, none⟩) 512 cap] 22) (hb1 : Blk w g1 #[.int .i64 at_] 2) (hb2 : Blk w g2 #[.int .i64 size] 3) (hr : Rg w (some ⟨b, o, none⟩) (bo xs)) (_hl : xs.length = 512) (_hs : ¬ (size = 1 ∨ size = 2 ∨ size = 4 ∨ size = 8)) : Calls Try.prog 26 #[.pointer (some ⟨g0, 0, none⟩), .pointer (some ⟨g1, 0, none⟩), .pointer (some ⟨g2, 0, none⟩)] w (Pan w (.iface 25 (.int .i64 2))) := by
  refine calls_of_CW Try.func26 rfl (n := 24) Try.ntmps26 (by kernel_rfl) [0, 1, 2] (F := [(0, .pointer (some ⟨g0, 0, none⟩)), (1, .pointer (some ⟨g1, 0, none⟩)), (2, .pointer (some ⟨g2, 0, none⟩))]) (by kernel_rfl) ?_
  have hg1 := hb0.lt
  have hg2 := hb1.lt
  have hg3 := hb2.lt
  refine CW.seq fun K4 hK4 => ?_
  refine CW.region ?_
  refine WR.batch 1 [(0, .pointer (some ⟨g0, 0, none⟩)), (1, .pointer (some ⟨g1, 0, none⟩)), (2, .pointer (some ⟨g2, 0, none⟩))] (by kernel_rfl) ?_
  refine WR.fin (by kernel_rfl) ?_
  refine go hK4 ?_
  refine CW.seq fun K5 hK5 => ?_
  refine CW.region ?_
  refine WR.load (dst := some 7) (t := 22) (o := 0) hb0 (by kernel_rfl) (.slice (some ⟨b, o, none⟩) 512 cap) (by kernel_rfl) ?_
  refine WR.call (dst := some 8) (by kernel_rfl) (of_yes b o cap w) ?_
  rintro _ w6 hc7 rfl
  have hz9 := hc7.size
  have hC8 := (Chg.refl [] w).pure hc7
  have hb10 := hb0.pure hc7
  have hb11 := hb1.pure hc7
  have hb12 := hb2.pure hc7
  refine WR.batch 1 [(1, .pointer (some ⟨g1, 0, none⟩)), (2, .pointer (some ⟨g2, 0, none⟩)), (9, .pointer (some ⟨b, o, none⟩))] (by kernel_rfl) ?_
  refine WR.loadA (dst := some 10) (t := 47) (ad := (some ⟨b, o, none⟩)) (j := 0) (sz := 512) (hr.pure hC8) (by kernel_rfl) (by kernel_rfl) (by kernel_rfl) (by kernel_rfl) (bo (xs)) (by simp; omega) (by rw [List.drop_zero]; exact boTake (by omega)) ?_
  refine WR.alloc (dst := some 4) (e := 47) (by kernel_rfl) (Array.replicate 512 (.bool false)) (by kernel_rfl) ?_
  intro g13 w14 hN15
  have hl18 : g0 < g13 := Nat.lt_of_lt_of_le hb10.lt hN15.fresh
  have hl19 : g1 < g13 := Nat.lt_of_lt_of_le hb11.lt hN15.fresh
  have hl20 : g2 < g13 := Nat.lt_of_lt_of_le hb12.lt hN15.fresh
  have hf17 : w.heap.size ≤ g13 := Nat.le_trans hC8.size hN15.fresh
  have hfr22 := hN15.fresh
  have hc21 := hN15.chg
  have hz24 := hc21.size
  have hC23 := hC8.pure hc21
  have hb25 := hb10.pure hc21
  have hb26 := hb11.pure hc21
  have hb27 := hb12.pure hc21
  have hb16 := hN15.blk
  have hg28 := hb16.lt
  refine WR.storeW (t := 47) (vs := bo (xs)) hb16 (by kernel_rfl) (by kernel_rfl) (by simp; omega) (boOne _) ?_
  intro w29 hb30 hc31
  have hz33 := hc31.size
  have hC32 := hC23.step hc31 (by intro t ht; simp only [List.mem_cons, List.not_mem_nil, or_false] at ht; subst ht; first | exact .inr (by omega) | exact .inl (by simp))
  have hb34 := hb25.chg hc31 (by simp only [List.mem_cons, List.not_mem_nil, or_false]; omega)
  have hb35 := hb26.chg hc31 (by simp only [List.mem_cons, List.not_mem_nil, or_false]; omega)
  have hb36 := hb27.chg hc31 (by simp only [List.mem_cons, List.not_mem_nil, or_false]; omega)
  refine WR.fin (by kernel_rfl) ?_
  refine go hK5 ?_
  refine CW.seq fun K37 hK37 => ?_
  refine CW.region ?_
  refine WR.load (dst := some 11) (t := 2) (o := 0) hb35 (by kernel_rfl) (.int .i64 at_) (by kernel_rfl) ?_
  refine WR.load (dst := some 12) (t := 3) (o := 0) hb36 (by kernel_rfl) (.int .i64 size) (by kernel_rfl) ?_
  refine WR.callX (dst := some 13) (by kernel_rfl) (part_size g13 0 at_ size w29 (by omega)) ?_
  intro w38 hc39
  have hz41 := hc39.size
  have hC40 := hC32.pure hc39
  have hb42 := hb34.pure hc39
  have hb43 := hb35.pure hc39
  have hb44 := hb36.pure hc39
  have hb45 := hb30.pure hc39
  exact panicV (P := Try.prog) (fn := Try.f26) ⟨rfl, hC40⟩

theorem Set1_at (g0 g1 g2 : Nat) (b o cap : Nat) (xs : List Bool) (at_ size : Int) (w : World) (hb0 : Blk w g0 #[.slice (some ⟨b, o, none⟩) 512 cap] 22) (hb1 : Blk w g1 #[.int .i64 at_] 2) (hb2 : Blk w g2 #[.int .i64 size] 3) (hr : Rg w (some ⟨b, o, none⟩) (bo xs)) (_hl : xs.length = 512) (_hs : (size = 1 ∨ size = 2 ∨ size = 4 ∨ size = 8)) (_hp : at_ < -512 ∨ at_ > -size) : Calls Try.prog 26 #[.pointer (some ⟨g0, 0, none⟩), .pointer (some ⟨g1, 0, none⟩), .pointer (some ⟨g2, 0, none⟩)] w (Pan w (.iface 25 (.int .i64 112))) := by
  refine calls_of_CW Try.func26 rfl (n := 24) Try.ntmps26 (by kernel_rfl) [0, 1, 2] (F := [(0, .pointer (some ⟨g0, 0, none⟩)), (1, .pointer (some ⟨g1, 0, none⟩)), (2, .pointer (some ⟨g2, 0, none⟩))]) (by kernel_rfl) ?_
  have hg1 := hb0.lt
  have hg2 := hb1.lt
  have hg3 := hb2.lt
  refine CW.seq fun K4 hK4 => ?_
  refine CW.region ?_
  refine WR.batch 1 [(0, .pointer (some ⟨g0, 0, none⟩)), (1, .pointer (some ⟨g1, 0, none⟩)), (2, .pointer (some ⟨g2, 0, none⟩))] (by kernel_rfl) ?_
  refine WR.fin (by kernel_rfl) ?_
  refine go hK4 ?_
  refine CW.seq fun K5 hK5 => ?_
  refine CW.region ?_
  refine WR.load (dst := some 7) (t := 22) (o := 0) hb0 (by kernel_rfl) (.slice (some ⟨b, o, none⟩) 512 cap) (by kernel_rfl) ?_
  refine WR.call (dst := some 8) (by kernel_rfl) (of_yes b o cap w) ?_
  rintro _ w6 hc7 rfl
  have hz9 := hc7.size
  have hC8 := (Chg.refl [] w).pure hc7
  have hb10 := hb0.pure hc7
  have hb11 := hb1.pure hc7
  have hb12 := hb2.pure hc7
  refine WR.batch 1 [(1, .pointer (some ⟨g1, 0, none⟩)), (2, .pointer (some ⟨g2, 0, none⟩)), (9, .pointer (some ⟨b, o, none⟩))] (by kernel_rfl) ?_
  refine WR.loadA (dst := some 10) (t := 47) (ad := (some ⟨b, o, none⟩)) (j := 0) (sz := 512) (hr.pure hC8) (by kernel_rfl) (by kernel_rfl) (by kernel_rfl) (by kernel_rfl) (bo (xs)) (by simp; omega) (by rw [List.drop_zero]; exact boTake (by omega)) ?_
  refine WR.alloc (dst := some 4) (e := 47) (by kernel_rfl) (Array.replicate 512 (.bool false)) (by kernel_rfl) ?_
  intro g13 w14 hN15
  have hl18 : g0 < g13 := Nat.lt_of_lt_of_le hb10.lt hN15.fresh
  have hl19 : g1 < g13 := Nat.lt_of_lt_of_le hb11.lt hN15.fresh
  have hl20 : g2 < g13 := Nat.lt_of_lt_of_le hb12.lt hN15.fresh
  have hf17 : w.heap.size ≤ g13 := Nat.le_trans hC8.size hN15.fresh
  have hfr22 := hN15.fresh
  have hc21 := hN15.chg
  have hz24 := hc21.size
  have hC23 := hC8.pure hc21
  have hb25 := hb10.pure hc21
  have hb26 := hb11.pure hc21
  have hb27 := hb12.pure hc21
  have hb16 := hN15.blk
  have hg28 := hb16.lt
  refine WR.storeW (t := 47) (vs := bo (xs)) hb16 (by kernel_rfl) (by kernel_rfl) (by simp; omega) (boOne _) ?_
  intro w29 hb30 hc31
  have hz33 := hc31.size
  have hC32 := hC23.step hc31 (by intro t ht; simp only [List.mem_cons, List.not_mem_nil, or_false] at ht; subst ht; first | exact .inr (by omega) | exact .inl (by simp))
  have hb34 := hb25.chg hc31 (by simp only [List.mem_cons, List.not_mem_nil, or_false]; omega)
  have hb35 := hb26.chg hc31 (by simp only [List.mem_cons, List.not_mem_nil, or_false]; omega)
  have hb36 := hb27.chg hc31 (by simp only [List.mem_cons, List.not_mem_nil, or_false]; omega)
  refine WR.fin (by kernel_rfl) ?_
  refine go hK5 ?_
  refine CW.seq fun K37 hK37 => ?_
  refine CW.region ?_
  refine WR.load (dst := some 11) (t := 2) (o := 0) hb35 (by kernel_rfl) (.int .i64 at_) (by kernel_rfl) ?_
  refine WR.load (dst := some 12) (t := 3) (o := 0) hb36 (by kernel_rfl) (.int .i64 size) (by kernel_rfl) ?_
  refine WR.callX (dst := some 13) (by kernel_rfl) (part_at g13 0 at_ size w29 (by omega) (by omega)) ?_
  intro w38 hc39
  have hz41 := hc39.size
  have hC40 := hC32.pure hc39
  have hb42 := hb34.pure hc39
  have hb43 := hb35.pure hc39
  have hb44 := hb36.pure hc39
  have hb45 := hb30.pure hc39
  exact panicV (P := Try.prog) (fn := Try.f26) ⟨rfl, hC40⟩

theorem Read1_ok (g0 g1 g2 : Nat) (b o cap : Nat) (xs : List Bool) (at_ size : Int) (w : World) (hb0 : Blk w g0 #[.slice (some ⟨b, o, none⟩) 512 cap] 22) (hb1 : Blk w g1 #[.int .i64 at_] 2) (hb2 : Blk w g2 #[.int .i64 size] 3) (hr : Rg w (some ⟨b, o, none⟩) (bo xs)) (_hl : xs.length = 512) (hp0 : placeE xs.length at_ size = 0) (hy : allB xs (at_ + 512).toNat size.toNat = true) : Calls Try.prog 32 #[.pointer (some ⟨g0, 0, none⟩), .pointer (some ⟨g1, 0, none⟩), .pointer (some ⟨g2, 0, none⟩)] w (RetV w (.bool true)) := by
  have hp := place_ok hp0
  refine calls_of_CW Try.func32 rfl (n := 20) Try.ntmps32 (by kernel_rfl) [0, 1, 2] (F := [(0, .pointer (some ⟨g0, 0, none⟩)), (1, .pointer (some ⟨g1, 0, none⟩)), (2, .pointer (some ⟨g2, 0, none⟩))]) (by kernel_rfl) ?_
  have hg1 := hb0.lt
  have hg2 := hb1.lt
  have hg3 := hb2.lt
  refine CW.seq fun K4 hK4 => ?_
  refine CW.region ?_
  refine WR.batch 1 [(0, .pointer (some ⟨g0, 0, none⟩)), (1, .pointer (some ⟨g1, 0, none⟩)), (2, .pointer (some ⟨g2, 0, none⟩))] (by kernel_rfl) ?_
  refine WR.fin (by kernel_rfl) ?_
  refine go hK4 ?_
  refine CW.seq fun K5 hK5 => ?_
  refine CW.seq fun K6 hK6 => ?_
  refine CW.regionQ (by kernel_rfl) (by kernel_rfl) ?_
  refine WQ.load (dst := some 6) (t := 22) (o := 0) (fun _ hq => hb0.pure hq) (by kernel_rfl) (.slice (some ⟨b, o, none⟩) 512 cap) (by kernel_rfl) ?_
  refine WQ.call (dst := some 7) (f := 27) (args := #[.slice (some ⟨b, o, none⟩) 512 cap]) (.pointer (some ⟨b, o, none⟩)) (fun _ => by kernel_rfl) (fun _ _ h h' => h.pure h') (fun wq hq => of_yes b o cap wq) ?_
  refine WQ.load (dst := some 8) (t := 2) (o := 0) (fun _ hq => hb1.pure hq) (by kernel_rfl) (.int .i64 at_) (by kernel_rfl) ?_
  refine WQ.load (dst := some 9) (t := 3) (o := 0) (fun _ hq => hb2.pure hq) (by kernel_rfl) (.int .i64 size) (by kernel_rfl) ?_
  refine WQ.call (dst := some 10) (f := 28) (args := #[.pointer (some ⟨b, o, none⟩), .int .i64 at_, .int .i64 size]) (.slice (some ⟨b, o + (at_ + 512).toNat, none⟩) size.toNat (512 - (512 + at_).toNat)) (fun _ => by kernel_rfl) (fun _ _ h h' => h.pure h') (fun wq hq => part_yes b o at_ size wq (o + (at_ + 512).toNat) (by omega) (by omega) (by omega)) ?_
  refine WQ.val (dst := some 11) (.int .i64 ((size.toNat : Nat) : Int)) (fun _ => by kernel_rfl) ?_
  refine WQ.val (dst := some 12) (.int .i64 (0 : Int)) (fun _ => by kernel_rfl) ?_
  refine WQ.fin (by kernel_rfl) ?_
  intro w7 hc8
  have hz10 := hc8.size
  have hC9 := (Chg.refl [] w).pure hc8
  have hb11 := hb0.pure hc8
  have hb12 := hb1.pure hc8
  have hb13 := hb2.pure hc8
  refine go hK6 ?_
  refine CW.block ?_
  refine CW.loop (σ := Nat) (fun k w14 => Chg [] w w14 ∧ ((k : Int) ≤ size) ∧ (allB xs (at_ + 512).toNat k = true)) (fun k => [(10, .slice (some ⟨b, o + (at_ + 512).toNat, none⟩) size.toNat (512 - (512 + at_).toNat)), (11, .int .i64 ((size.toNat : Nat) : Int)), (12, .int .i64 ((k : Nat) : Int))]) (fun k => size.toNat - k) (0) ⟨hC9, (by omega), rfl⟩ [10, 11, 12] (by kernel_rfl) ?_
  rintro k w14 ⟨hC15, hk, hall⟩
  refine CW.seq fun K16 hK16 => ?_
  refine CW.region ?_
  refine WR.batch 1 [(10, .slice (some ⟨b, o + (at_ + 512).toNat, none⟩) size.toNat (512 - (512 + at_).toNat)), (11, .int .i64 ((size.toNat : Nat) : Int)), (12, .int .i64 ((k : Nat) : Int)), (13, .bool (decide (((k : Nat) : Int) < ((size.toNat : Nat) : Int))))] (by kernel_rfl) ?_
  refine WR.fin (by kernel_rfl) ?_
  refine go hK16 ?_
  refine CW.seq fun K17 hK17 => ?_
  refine CW.cond (decide (((k : Nat) : Int) < ((size.toNat : Nat) : Int))) (by kernel_rfl) (fun ht18 => ?_) (fun ht18 => ?_)
  ·
    replace ht18 : ((k : Nat) : Int) < ((size.toNat : Nat) : Int) := (of_decide_eq_true ht18)
    refine CW.skip ?_
    refine go hK17 ?_
    refine CW.seq fun K19 hK19 => ?_
    refine CW.block ?_
    refine CW.seq fun K20 hK20 => ?_
    refine CW.region ?_
    refine WR.indexS (dst := some 14) (t := 22) (b := b) (o := o + (at_ + 512).toNat) (m := size.toNat) (cap := 512 - (512 + at_).toNat) (kk := .i64) (i := ((k : Nat) : Int)) (by kernel_rfl) 1 (by kernel_rfl) (k) (by omega) (by omega) (o + ((at_ + 512).toNat + k)) (by omega) ?_
    refine WR.load1 (dst := some 15) (t := 4) (a := ⟨b, o + ((at_ + 512).toNat + k), none⟩) (by kernel_rfl) (by kernel_rfl) (.bool (xs.getD ((at_ + 512).toNat + k) false)) ((hr.pure hC15) ((at_ + 512).toNat + k) _ (getMap _ xs ((at_ + 512).toNat + k) false (by omega))).2 ?_
    refine WR.batch 1 [(5, .bool (xs.getD ((at_ + 512).toNat + k) false)), (10, .slice (some ⟨b, o + (at_ + 512).toNat, none⟩) size.toNat (512 - (512 + at_).toNat)), (11, .int .i64 ((size.toNat : Nat) : Int)), (12, .int .i64 ((k : Nat) : Int))] (by kernel_rfl) ?_
    refine WR.fin (by kernel_rfl) ?_
    refine go hK20 ?_
    refine CW.seq fun K21 hK21 => ?_
    refine CW.region ?_
    refine WR.batch 2 [(10, .slice (some ⟨b, o + (at_ + 512).toNat, none⟩) size.toNat (512 - (512 + at_).toNat)), (11, .int .i64 ((size.toNat : Nat) : Int)), (12, .int .i64 ((k : Nat) : Int)), (17, .bool (!(xs.getD ((at_ + 512).toNat + k) false)))] (by kernel_rfl) ?_
    refine WR.fin (by kernel_rfl) ?_
    refine go hK21 ?_
    refine CW.cond ((!(xs.getD ((at_ + 512).toNat + k) false))) (by kernel_rfl) (fun ht22 => ?_) (fun ht22 => ?_)
    ·
      replace ht22 : (xs.getD ((at_ + 512).toNat + k) false) = false := (bNotT ht22)
      rw [allB_lt hy (by omega)] at ht22; cases ht22
    ·
      replace ht22 : (xs.getD ((at_ + 512).toNat + k) false) = true := (bNotF ht22)
      have hx := ht22
      refine CW.skip ?_
      refine go hK19 ?_
      refine CW.region ?_
      refine WR.batch 1 [(10, .slice (some ⟨b, o + (at_ + 512).toNat, none⟩) size.toNat (512 - (512 + at_).toNat)), (11, .int .i64 ((size.toNat : Nat) : Int)), (19, .int .i64 (IntKind.i64.wrap (((k : Nat) : Int) + (1 : Int))))] (by kernel_rfl) ?_
      have hw23 : IntKind.i64.wrap (((k : Nat) : Int) + (1 : Int)) = (((k : Nat) : Int) + (1 : Int)) := IntWalk.i64_in _ (by omega)
      refine WR.eqF (F' := [(10, .slice (some ⟨b, o + (at_ + 512).toNat, none⟩) size.toNat (512 - (512 + at_).toNat)), (11, .int .i64 ((size.toNat : Nat) : Int)), (19, .int .i64 (((k : Nat) : Int) + (1 : Int)))]) (by rw [hw23]) ?_
      refine WR.batch 1 [(10, .slice (some ⟨b, o + (at_ + 512).toNat, none⟩) size.toNat (512 - (512 + at_).toNat)), (11, .int .i64 ((size.toNat : Nat) : Int)), (12, .int .i64 (((k : Nat) : Int) + (1 : Int)))] (by kernel_rfl) ?_
      refine WR.fin (by kernel_rfl) ?_
      exact fun _ ha => ⟨k + 1, ⟨hC15, (by omega), (by rw [allB_succ, hall, hx]; rfl)⟩, (by dsimp only; omega), ha.keep [10, 11, 12] (by kernel_rfl)⟩
  ·
    replace ht18 : ¬ (((k : Nat) : Int) < ((size.toNat : Nat) : Int)) := (of_decide_eq_false ht18)
    refine CW.exit ?_
    refine go hK5 ?_
    refine CW.seq fun K24 hK24 => ?_
    refine CW.region ?_
    refine WR.batch 1 [(3, .bool true)] (by kernel_rfl) ?_
    refine WR.fin (by kernel_rfl) ?_
    refine go hK24 ?_
    refine CW.ret ?_
    exact retV (.bool true) (by kernel_rfl) ⟨hC15, rfl⟩

theorem Read1_unset (g0 g1 g2 : Nat) (b o cap : Nat) (xs : List Bool) (at_ size : Int) (w : World) (hb0 : Blk w g0 #[.slice (some ⟨b, o, none⟩) 512 cap] 22) (hb1 : Blk w g1 #[.int .i64 at_] 2) (hb2 : Blk w g2 #[.int .i64 size] 3) (hr : Rg w (some ⟨b, o, none⟩) (bo xs)) (_hl : xs.length = 512) (hp0 : placeE xs.length at_ size = 0) (hy : allB xs (at_ + 512).toNat size.toNat = false) : Calls Try.prog 32 #[.pointer (some ⟨g0, 0, none⟩), .pointer (some ⟨g1, 0, none⟩), .pointer (some ⟨g2, 0, none⟩)] w (Pan w (.iface 25 (.int .i64 110))) := by
  have hp := place_ok hp0
  refine calls_of_CW Try.func32 rfl (n := 20) Try.ntmps32 (by kernel_rfl) [0, 1, 2] (F := [(0, .pointer (some ⟨g0, 0, none⟩)), (1, .pointer (some ⟨g1, 0, none⟩)), (2, .pointer (some ⟨g2, 0, none⟩))]) (by kernel_rfl) ?_
  have hg1 := hb0.lt
  have hg2 := hb1.lt
  have hg3 := hb2.lt
  refine CW.seq fun K4 hK4 => ?_
  refine CW.region ?_
  refine WR.batch 1 [(0, .pointer (some ⟨g0, 0, none⟩)), (1, .pointer (some ⟨g1, 0, none⟩)), (2, .pointer (some ⟨g2, 0, none⟩))] (by kernel_rfl) ?_
  refine WR.fin (by kernel_rfl) ?_
  refine go hK4 ?_
  refine CW.seq fun K5 hK5 => ?_
  refine CW.seq fun K6 hK6 => ?_
  refine CW.regionQ (by kernel_rfl) (by kernel_rfl) ?_
  refine WQ.load (dst := some 6) (t := 22) (o := 0) (fun _ hq => hb0.pure hq) (by kernel_rfl) (.slice (some ⟨b, o, none⟩) 512 cap) (by kernel_rfl) ?_
  refine WQ.call (dst := some 7) (f := 27) (args := #[.slice (some ⟨b, o, none⟩) 512 cap]) (.pointer (some ⟨b, o, none⟩)) (fun _ => by kernel_rfl) (fun _ _ h h' => h.pure h') (fun wq hq => of_yes b o cap wq) ?_
  refine WQ.load (dst := some 8) (t := 2) (o := 0) (fun _ hq => hb1.pure hq) (by kernel_rfl) (.int .i64 at_) (by kernel_rfl) ?_
  refine WQ.load (dst := some 9) (t := 3) (o := 0) (fun _ hq => hb2.pure hq) (by kernel_rfl) (.int .i64 size) (by kernel_rfl) ?_
  refine WQ.call (dst := some 10) (f := 28) (args := #[.pointer (some ⟨b, o, none⟩), .int .i64 at_, .int .i64 size]) (.slice (some ⟨b, o + (at_ + 512).toNat, none⟩) size.toNat (512 - (512 + at_).toNat)) (fun _ => by kernel_rfl) (fun _ _ h h' => h.pure h') (fun wq hq => part_yes b o at_ size wq (o + (at_ + 512).toNat) (by omega) (by omega) (by omega)) ?_
  refine WQ.val (dst := some 11) (.int .i64 ((size.toNat : Nat) : Int)) (fun _ => by kernel_rfl) ?_
  refine WQ.val (dst := some 12) (.int .i64 (0 : Int)) (fun _ => by kernel_rfl) ?_
  refine WQ.fin (by kernel_rfl) ?_
  intro w7 hc8
  have hz10 := hc8.size
  have hC9 := (Chg.refl [] w).pure hc8
  have hb11 := hb0.pure hc8
  have hb12 := hb1.pure hc8
  have hb13 := hb2.pure hc8
  refine go hK6 ?_
  refine CW.block ?_
  refine CW.loop (σ := Nat) (fun k w14 => Chg [] w w14 ∧ ((k : Int) ≤ size) ∧ (allB xs (at_ + 512).toNat k = true)) (fun k => [(10, .slice (some ⟨b, o + (at_ + 512).toNat, none⟩) size.toNat (512 - (512 + at_).toNat)), (11, .int .i64 ((size.toNat : Nat) : Int)), (12, .int .i64 ((k : Nat) : Int))]) (fun k => size.toNat - k) (0) ⟨hC9, (by omega), rfl⟩ [10, 11, 12] (by kernel_rfl) ?_
  rintro k w14 ⟨hC15, hk, hall⟩
  refine CW.seq fun K16 hK16 => ?_
  refine CW.region ?_
  refine WR.batch 1 [(10, .slice (some ⟨b, o + (at_ + 512).toNat, none⟩) size.toNat (512 - (512 + at_).toNat)), (11, .int .i64 ((size.toNat : Nat) : Int)), (12, .int .i64 ((k : Nat) : Int)), (13, .bool (decide (((k : Nat) : Int) < ((size.toNat : Nat) : Int))))] (by kernel_rfl) ?_
  refine WR.fin (by kernel_rfl) ?_
  refine go hK16 ?_
  refine CW.seq fun K17 hK17 => ?_
  refine CW.cond (decide (((k : Nat) : Int) < ((size.toNat : Nat) : Int))) (by kernel_rfl) (fun ht18 => ?_) (fun ht18 => ?_)
  ·
    replace ht18 : ((k : Nat) : Int) < ((size.toNat : Nat) : Int) := (of_decide_eq_true ht18)
    refine CW.skip ?_
    refine go hK17 ?_
    refine CW.seq fun K19 hK19 => ?_
    refine CW.block ?_
    refine CW.seq fun K20 hK20 => ?_
    refine CW.region ?_
    refine WR.indexS (dst := some 14) (t := 22) (b := b) (o := o + (at_ + 512).toNat) (m := size.toNat) (cap := 512 - (512 + at_).toNat) (kk := .i64) (i := ((k : Nat) : Int)) (by kernel_rfl) 1 (by kernel_rfl) (k) (by omega) (by omega) (o + ((at_ + 512).toNat + k)) (by omega) ?_
    refine WR.load1 (dst := some 15) (t := 4) (a := ⟨b, o + ((at_ + 512).toNat + k), none⟩) (by kernel_rfl) (by kernel_rfl) (.bool (xs.getD ((at_ + 512).toNat + k) false)) ((hr.pure hC15) ((at_ + 512).toNat + k) _ (getMap _ xs ((at_ + 512).toNat + k) false (by omega))).2 ?_
    refine WR.batch 1 [(5, .bool (xs.getD ((at_ + 512).toNat + k) false)), (10, .slice (some ⟨b, o + (at_ + 512).toNat, none⟩) size.toNat (512 - (512 + at_).toNat)), (11, .int .i64 ((size.toNat : Nat) : Int)), (12, .int .i64 ((k : Nat) : Int))] (by kernel_rfl) ?_
    refine WR.fin (by kernel_rfl) ?_
    refine go hK20 ?_
    refine CW.seq fun K21 hK21 => ?_
    refine CW.region ?_
    refine WR.batch 2 [(10, .slice (some ⟨b, o + (at_ + 512).toNat, none⟩) size.toNat (512 - (512 + at_).toNat)), (11, .int .i64 ((size.toNat : Nat) : Int)), (12, .int .i64 ((k : Nat) : Int)), (17, .bool (!(xs.getD ((at_ + 512).toNat + k) false)))] (by kernel_rfl) ?_
    refine WR.fin (by kernel_rfl) ?_
    refine go hK21 ?_
    refine CW.cond ((!(xs.getD ((at_ + 512).toNat + k) false))) (by kernel_rfl) (fun ht22 => ?_) (fun ht22 => ?_)
    ·
      replace ht22 : (xs.getD ((at_ + 512).toNat + k) false) = false := (bNotT ht22)
      refine CW.region ?_
      refine WR.batch 1 [(10, .slice (some ⟨b, o + (at_ + 512).toNat, none⟩) size.toNat (512 - (512 + at_).toNat)), (11, .int .i64 ((size.toNat : Nat) : Int)), (12, .int .i64 ((k : Nat) : Int)), (18, .iface 25 (.int .i64 (110 : Int)))] (by kernel_rfl) ?_
      refine WR.throwR (dst := none) (v := .iface 25 (.int .i64 (110 : Int))) (w' := w14) (by kernel_rfl) ?_
      exact panicV (P := Try.prog) (fn := Try.f32) ⟨rfl, hC15⟩
    ·
      replace ht22 : (xs.getD ((at_ + 512).toNat + k) false) = true := (bNotF ht22)
      have hx := ht22
      refine CW.skip ?_
      refine go hK19 ?_
      refine CW.region ?_
      refine WR.batch 1 [(10, .slice (some ⟨b, o + (at_ + 512).toNat, none⟩) size.toNat (512 - (512 + at_).toNat)), (11, .int .i64 ((size.toNat : Nat) : Int)), (19, .int .i64 (IntKind.i64.wrap (((k : Nat) : Int) + (1 : Int))))] (by kernel_rfl) ?_
      have hw23 : IntKind.i64.wrap (((k : Nat) : Int) + (1 : Int)) = (((k : Nat) : Int) + (1 : Int)) := IntWalk.i64_in _ (by omega)
      refine WR.eqF (F' := [(10, .slice (some ⟨b, o + (at_ + 512).toNat, none⟩) size.toNat (512 - (512 + at_).toNat)), (11, .int .i64 ((size.toNat : Nat) : Int)), (19, .int .i64 (((k : Nat) : Int) + (1 : Int)))]) (by rw [hw23]) ?_
      refine WR.batch 1 [(10, .slice (some ⟨b, o + (at_ + 512).toNat, none⟩) size.toNat (512 - (512 + at_).toNat)), (11, .int .i64 ((size.toNat : Nat) : Int)), (12, .int .i64 (((k : Nat) : Int) + (1 : Int)))] (by kernel_rfl) ?_
      refine WR.fin (by kernel_rfl) ?_
      exact fun _ ha => ⟨k + 1, ⟨hC15, (by omega), (by rw [allB_succ, hall, hx]; rfl)⟩, (by dsimp only; omega), ha.keep [10, 11, 12] (by kernel_rfl)⟩
  ·
    replace ht18 : ¬ (((k : Nat) : Int) < ((size.toNat : Nat) : Int)) := (of_decide_eq_false ht18)
    exfalso; have e : k = size.toNat := (by omega); rw [e, hy] at hall; cases hall

theorem Read1_len (g0 g1 g2 : Nat) (ad : Option Addr) (cap : Nat) (xs : List Bool) (at_ size : Int) (w : World) (hb0 : Blk w g0 #[.slice ad xs.length cap] 22) (hb1 : Blk w g1 #[.int .i64 at_] 2) (hb2 : Blk w g2 #[.int .i64 size] 3) (_hl : xs.length ≠ 512) : Calls Try.prog 32 #[.pointer (some ⟨g0, 0, none⟩), .pointer (some ⟨g1, 0, none⟩), .pointer (some ⟨g2, 0, none⟩)] w (Pan w (.iface 25 (.int .i64 2))) := by
  refine calls_of_CW Try.func32 rfl (n := 20) Try.ntmps32 (by kernel_rfl) [0, 1, 2] (F := [(0, .pointer (some ⟨g0, 0, none⟩)), (1, .pointer (some ⟨g1, 0, none⟩)), (2, .pointer (some ⟨g2, 0, none⟩))]) (by kernel_rfl) ?_
  have hg1 := hb0.lt
  have hg2 := hb1.lt
  have hg3 := hb2.lt
  refine CW.seq fun K4 hK4 => ?_
  refine CW.region ?_
  refine WR.batch 1 [(0, .pointer (some ⟨g0, 0, none⟩)), (1, .pointer (some ⟨g1, 0, none⟩)), (2, .pointer (some ⟨g2, 0, none⟩))] (by kernel_rfl) ?_
  refine WR.fin (by kernel_rfl) ?_
  refine go hK4 ?_
  refine CW.seq fun K5 hK5 => ?_
  refine CW.seq fun K6 hK6 => ?_
  refine CW.keep [0, 1, 2] (F' := [(0, .pointer (some ⟨g0, 0, none⟩)), (1, .pointer (some ⟨g1, 0, none⟩)), (2, .pointer (some ⟨g2, 0, none⟩))]) (by kernel_rfl) ?_
  refine CW.regionF 7 [] [] (by kernel_rfl) (fun w' => Chg [] w w') (fun i v w' => match i with | 0 => v = .slice ad xs.length cap | 1 => False | 2 => v = .int .i64 at_ | 3 => v = .int .i64 size | 4 => False | 5 => False | 6 => v = .int .i64 (0 : Int) | _ => True) (fun j x w hj h => match j, hj, h with | 0, hj, h => absurd hj (by decide) | 1, hj, h => absurd hj (by decide) | 2, hj, h => absurd hj (by decide) | 3, hj, h => absurd hj (by decide) | 4, hj, h => absurd hj (by decide) | 5, hj, h => absurd hj (by decide) | 6, hj, h => absurd hj (by decide) | j + 7, hj, _ => absurd hj (by simp)) (by kernel_rfl) (by kernel_rfl) (by kernel_rfl) (Chg.drew w) (fun _ _ h h' => h.pure h') ?_ ⟨?_, ?_, ?_, ?_, ?_, ?_, ?_, trivial⟩ ?_
  ·
    intro i v w1 w2 h hc
    match i, h with
    | 0, h => exact h
    | 1, h => exact h
    | 2, h => exact h
    | 3, h => exact h
    | 4, h => exact h
    | 5, h => exact h
    | 6, h => exact h
    | n + 7, h => trivial
  ·
    intro u9 w10 hW11 hp12
    have hz14 := hW11.size
    have hC13 := (Chg.refl [] w).pure hW11
    have hb15 := hb0.pure hW11
    have hb16 := hb1.pure hW11
    have hb17 := hb2.pure hW11
    refine WR.eqF (F' := [(6, u9 0), (7, u9 1), (8, u9 2), (9, u9 3), (10, u9 4), (11, u9 5), (12, u9 6), (0, .pointer (some ⟨g0, 0, none⟩)), (1, .pointer (some ⟨g1, 0, none⟩)), (2, .pointer (some ⟨g2, 0, none⟩))]) (by kernel_rfl) ?_
    refine WR.load (dst := some 6) (t := 22) (o := 0) hb15 (by kernel_rfl) (.slice ad xs.length cap) (by kernel_rfl) ?_
    refine WR.fin (by kernel_rfl) ?_
    exact fun _ ha => ⟨Chg.refl _ _, _, ha.cast (by kernel_rfl), ⟨⟨fun h => absurd h (by decide), alNone (by decide)⟩, rfl⟩⟩
  ·
    intro u18 w19 hW20 hp21
    have hz23 := hW20.size
    have hC22 := (Chg.refl [] w).pure hW20
    have hb24 := hb0.pure hW20
    have hb25 := hb1.pure hW20
    have hb26 := hb2.pure hW20
    have hp27 : u18 0 = .slice ad xs.length cap := hp21 0 (by kernel_rfl)
    refine WR.eqF (F' := [(6, u18 0), (7, u18 1), (8, u18 2), (9, u18 3), (10, u18 4), (11, u18 5), (12, u18 6), (0, .pointer (some ⟨g0, 0, none⟩)), (1, .pointer (some ⟨g1, 0, none⟩)), (2, .pointer (some ⟨g2, 0, none⟩))]) (by kernel_rfl) ?_
    refine WR.eqF (F' := [(6, .slice ad xs.length cap), (7, u18 1), (8, u18 2), (9, u18 3), (10, u18 4), (11, u18 5), (12, u18 6), (0, .pointer (some ⟨g0, 0, none⟩)), (1, .pointer (some ⟨g1, 0, none⟩)), (2, .pointer (some ⟨g2, 0, none⟩))]) (by rw [hp27]) ?_
    refine WR.callX (dst := some 7) (by kernel_rfl) (of_no ad xs.length cap w19 (by omega)) ?_
    intro w28 hc29
    have hz31 := hc29.size
    have hC30 := hC22.pure hc29
    have hb32 := hb24.pure hc29
    have hb33 := hb25.pure hc29
    have hb34 := hb26.pure hc29
    exact panicV (P := Try.prog) (fn := Try.f32) ⟨rfl, hC30⟩
  ·
    intro u35 w36 hW37 hp38
    have hz40 := hW37.size
    have hC39 := (Chg.refl [] w).pure hW37
    have hb41 := hb0.pure hW37
    have hb42 := hb1.pure hW37
    have hb43 := hb2.pure hW37
    refine WR.eqF (F' := [(6, u35 0), (7, u35 1), (8, u35 2), (9, u35 3), (10, u35 4), (11, u35 5), (12, u35 6), (0, .pointer (some ⟨g0, 0, none⟩)), (1, .pointer (some ⟨g1, 0, none⟩)), (2, .pointer (some ⟨g2, 0, none⟩))]) (by kernel_rfl) ?_
    refine WR.load (dst := some 8) (t := 2) (o := 0) hb42 (by kernel_rfl) (.int .i64 at_) (by kernel_rfl) ?_
    refine WR.fin (by kernel_rfl) ?_
    exact fun _ ha => ⟨Chg.refl _ _, _, ha.cast (by kernel_rfl), ⟨⟨fun h => absurd h (by decide), alNone (by decide)⟩, rfl⟩⟩
  ·
    intro u44 w45 hW46 hp47
    have hz49 := hW46.size
    have hC48 := (Chg.refl [] w).pure hW46
    have hb50 := hb0.pure hW46
    have hb51 := hb1.pure hW46
    have hb52 := hb2.pure hW46
    refine WR.eqF (F' := [(6, u44 0), (7, u44 1), (8, u44 2), (9, u44 3), (10, u44 4), (11, u44 5), (12, u44 6), (0, .pointer (some ⟨g0, 0, none⟩)), (1, .pointer (some ⟨g1, 0, none⟩)), (2, .pointer (some ⟨g2, 0, none⟩))]) (by kernel_rfl) ?_
    refine WR.load (dst := some 9) (t := 3) (o := 0) hb52 (by kernel_rfl) (.int .i64 size) (by kernel_rfl) ?_
    refine WR.fin (by kernel_rfl) ?_
    exact fun _ ha => ⟨Chg.refl _ _, _, ha.cast (by kernel_rfl), ⟨⟨fun h => absurd h (by decide), alNone (by decide)⟩, rfl⟩⟩
  ·
    intro u53 w54 hW55 hp56
    exact (hp56 1 (by kernel_rfl)).elim
  ·
    intro u57 w58 hW59 hp60
    exact (hp60 4 (by kernel_rfl)).elim
  ·
    intro u61 w62 hW63 hp64
    have hz66 := hW63.size
    have hC65 := (Chg.refl [] w).pure hW63
    have hb67 := hb0.pure hW63
    have hb68 := hb1.pure hW63
    have hb69 := hb2.pure hW63
    refine WR.eqF (F' := [(6, u61 0), (7, u61 1), (8, u61 2), (9, u61 3), (10, u61 4), (11, u61 5), (12, u61 6), (0, .pointer (some ⟨g0, 0, none⟩)), (1, .pointer (some ⟨g1, 0, none⟩)), (2, .pointer (some ⟨g2, 0, none⟩))]) (by kernel_rfl) ?_
    refine WR.valR (dst := some 12) (v := .int .i64 (0 : Int)) (w' := w62) (by kernel_rfl) ?_
    refine WR.fin (by kernel_rfl) ?_
    exact fun _ ha => ⟨Chg.refl _ _, _, ha.cast (by kernel_rfl), ⟨⟨fun h => absurd h (by decide), alNone (by decide)⟩, rfl⟩⟩
  ·
    intro u70 w71 hW72 hr73 hD74 hal75
    exact (hr73 1 (by omega)).elim

theorem Read1_size (g0 g1 g2 : Nat) (b o cap : Nat) (xs : List Bool) (at_ size : Int) (w : World) (hb0 : Blk w g0 #[.slice (some ⟨b, o, none⟩) 512 cap] 22) (hb1 : Blk w g1 #[.int .i64 at_] 2) (hb2 : Blk w g2 #[.int .i64 size] 3) (_hr : Rg w (some ⟨b, o, none⟩) (bo xs)) (_hl : xs.length = 512) (_hs : ¬ (size = 1 ∨ size = 2 ∨ size = 4 ∨ size = 8)) : Calls Try.prog 32 #[.pointer (some ⟨g0, 0, none⟩), .pointer (some ⟨g1, 0, none⟩), .pointer (some ⟨g2, 0, none⟩)] w (Pan w (.iface 25 (.int .i64 2))) := by
  refine calls_of_CW Try.func32 rfl (n := 20) Try.ntmps32 (by kernel_rfl) [0, 1, 2] (F := [(0, .pointer (some ⟨g0, 0, none⟩)), (1, .pointer (some ⟨g1, 0, none⟩)), (2, .pointer (some ⟨g2, 0, none⟩))]) (by kernel_rfl) ?_
  have hg1 := hb0.lt
  have hg2 := hb1.lt
  have hg3 := hb2.lt
  refine CW.seq fun K4 hK4 => ?_
  refine CW.region ?_
  refine WR.batch 1 [(0, .pointer (some ⟨g0, 0, none⟩)), (1, .pointer (some ⟨g1, 0, none⟩)), (2, .pointer (some ⟨g2, 0, none⟩))] (by kernel_rfl) ?_
  refine WR.fin (by kernel_rfl) ?_
  refine go hK4 ?_
  refine CW.seq fun K5 hK5 => ?_
  refine CW.seq fun K6 hK6 => ?_
  refine CW.keep [0, 1, 2] (F' := [(0, .pointer (some ⟨g0, 0, none⟩)), (1, .pointer (some ⟨g1, 0, none⟩)), (2, .pointer (some ⟨g2, 0, none⟩))]) (by kernel_rfl) ?_
  refine CW.regionF 7 [] [] (by kernel_rfl) (fun w' => Chg [] w w') (fun i v w' => match i with | 0 => v = .slice (some ⟨b, o, none⟩) 512 cap | 1 => v = .pointer (some ⟨b, o, none⟩) | 2 => v = .int .i64 at_ | 3 => v = .int .i64 size | 4 => False | 5 => False | 6 => v = .int .i64 (0 : Int) | _ => True) (fun j x w hj h => match j, hj, h with | 0, hj, h => absurd hj (by decide) | 1, hj, h => absurd hj (by decide) | 2, hj, h => absurd hj (by decide) | 3, hj, h => absurd hj (by decide) | 4, hj, h => absurd hj (by decide) | 5, hj, h => absurd hj (by decide) | 6, hj, h => absurd hj (by decide) | j + 7, hj, _ => absurd hj (by simp)) (by kernel_rfl) (by kernel_rfl) (by kernel_rfl) (Chg.drew w) (fun _ _ h h' => h.pure h') ?_ ⟨?_, ?_, ?_, ?_, ?_, ?_, ?_, trivial⟩ ?_
  ·
    intro i v w1 w2 h hc
    match i, h with
    | 0, h => exact h
    | 1, h => exact h
    | 2, h => exact h
    | 3, h => exact h
    | 4, h => exact h
    | 5, h => exact h
    | 6, h => exact h
    | n + 7, h => trivial
  ·
    intro u9 w10 hW11 hp12
    have hz14 := hW11.size
    have hC13 := (Chg.refl [] w).pure hW11
    have hb15 := hb0.pure hW11
    have hb16 := hb1.pure hW11
    have hb17 := hb2.pure hW11
    refine WR.eqF (F' := [(6, u9 0), (7, u9 1), (8, u9 2), (9, u9 3), (10, u9 4), (11, u9 5), (12, u9 6), (0, .pointer (some ⟨g0, 0, none⟩)), (1, .pointer (some ⟨g1, 0, none⟩)), (2, .pointer (some ⟨g2, 0, none⟩))]) (by kernel_rfl) ?_
    refine WR.load (dst := some 6) (t := 22) (o := 0) hb15 (by kernel_rfl) (.slice (some ⟨b, o, none⟩) 512 cap) (by kernel_rfl) ?_
    refine WR.fin (by kernel_rfl) ?_
    exact fun _ ha => ⟨Chg.refl _ _, _, ha.cast (by kernel_rfl), ⟨⟨fun h => absurd h (by decide), alNone (by decide)⟩, rfl⟩⟩
  ·
    intro u18 w19 hW20 hp21
    have hz23 := hW20.size
    have hC22 := (Chg.refl [] w).pure hW20
    have hb24 := hb0.pure hW20
    have hb25 := hb1.pure hW20
    have hb26 := hb2.pure hW20
    have hp27 : u18 0 = .slice (some ⟨b, o, none⟩) 512 cap := hp21 0 (by kernel_rfl)
    refine WR.eqF (F' := [(6, u18 0), (7, u18 1), (8, u18 2), (9, u18 3), (10, u18 4), (11, u18 5), (12, u18 6), (0, .pointer (some ⟨g0, 0, none⟩)), (1, .pointer (some ⟨g1, 0, none⟩)), (2, .pointer (some ⟨g2, 0, none⟩))]) (by kernel_rfl) ?_
    refine WR.eqF (F' := [(6, .slice (some ⟨b, o, none⟩) 512 cap), (7, u18 1), (8, u18 2), (9, u18 3), (10, u18 4), (11, u18 5), (12, u18 6), (0, .pointer (some ⟨g0, 0, none⟩)), (1, .pointer (some ⟨g1, 0, none⟩)), (2, .pointer (some ⟨g2, 0, none⟩))]) (by rw [hp27]) ?_
    refine WR.call (dst := some 7) (by kernel_rfl) (of_yes b o cap w19) ?_
    rintro _ w28 hc29 rfl
    have hz31 := hc29.size
    have hC30 := hC22.pure hc29
    have hb32 := hb24.pure hc29
    have hb33 := hb25.pure hc29
    have hb34 := hb26.pure hc29
    refine WR.fin (by kernel_rfl) ?_
    exact fun _ ha => ⟨hc29, _, ha.cast (show upd [(6, .slice (some ⟨b, o, none⟩) 512 cap), (7, u18 1), (8, u18 2), (9, u18 3), (10, u18 4), (11, u18 5), (12, u18 6), (0, .pointer (some ⟨g0, 0, none⟩)), (1, .pointer (some ⟨g1, 0, none⟩)), (2, .pointer (some ⟨g2, 0, none⟩))] (some 7) _ = upd [(6, u18 0), (7, u18 1), (8, u18 2), (9, u18 3), (10, u18 4), (11, u18 5), (12, u18 6), (0, .pointer (some ⟨g0, 0, none⟩)), (1, .pointer (some ⟨g1, 0, none⟩)), (2, .pointer (some ⟨g2, 0, none⟩))] (some 7) _ from by rw [hp27]), ⟨⟨fun h => absurd h (by decide), alNone (by decide)⟩, rfl⟩⟩
  ·
    intro u35 w36 hW37 hp38
    have hz40 := hW37.size
    have hC39 := (Chg.refl [] w).pure hW37
    have hb41 := hb0.pure hW37
    have hb42 := hb1.pure hW37
    have hb43 := hb2.pure hW37
    refine WR.eqF (F' := [(6, u35 0), (7, u35 1), (8, u35 2), (9, u35 3), (10, u35 4), (11, u35 5), (12, u35 6), (0, .pointer (some ⟨g0, 0, none⟩)), (1, .pointer (some ⟨g1, 0, none⟩)), (2, .pointer (some ⟨g2, 0, none⟩))]) (by kernel_rfl) ?_
    refine WR.load (dst := some 8) (t := 2) (o := 0) hb42 (by kernel_rfl) (.int .i64 at_) (by kernel_rfl) ?_
    refine WR.fin (by kernel_rfl) ?_
    exact fun _ ha => ⟨Chg.refl _ _, _, ha.cast (by kernel_rfl), ⟨⟨fun h => absurd h (by decide), alNone (by decide)⟩, rfl⟩⟩
  ·
    intro u44 w45 hW46 hp47
    have hz49 := hW46.size
    have hC48 := (Chg.refl [] w).pure hW46
    have hb50 := hb0.pure hW46
    have hb51 := hb1.pure hW46
    have hb52 := hb2.pure hW46
    refine WR.eqF (F' := [(6, u44 0), (7, u44 1), (8, u44 2), (9, u44 3), (10, u44 4), (11, u44 5), (12, u44 6), (0, .pointer (some ⟨g0, 0, none⟩)), (1, .pointer (some ⟨g1, 0, none⟩)), (2, .pointer (some ⟨g2, 0, none⟩))]) (by kernel_rfl) ?_
    refine WR.load (dst := some 9) (t := 3) (o := 0) hb52 (by kernel_rfl) (.int .i64 size) (by kernel_rfl) ?_
    refine WR.fin (by kernel_rfl) ?_
    exact fun _ ha => ⟨Chg.refl _ _, _, ha.cast (by kernel_rfl), ⟨⟨fun h => absurd h (by decide), alNone (by decide)⟩, rfl⟩⟩
  ·
    intro u53 w54 hW55 hp56
    have hz58 := hW55.size
    have hC57 := (Chg.refl [] w).pure hW55
    have hb59 := hb0.pure hW55
    have hb60 := hb1.pure hW55
    have hb61 := hb2.pure hW55
    have hp62 : u53 1 = .pointer (some ⟨b, o, none⟩) := hp56 1 (by kernel_rfl)
    have hp63 : u53 2 = .int .i64 at_ := hp56 2 (by kernel_rfl)
    have hp64 : u53 3 = .int .i64 size := hp56 3 (by kernel_rfl)
    refine WR.eqF (F' := [(6, u53 0), (7, u53 1), (8, u53 2), (9, u53 3), (10, u53 4), (11, u53 5), (12, u53 6), (0, .pointer (some ⟨g0, 0, none⟩)), (1, .pointer (some ⟨g1, 0, none⟩)), (2, .pointer (some ⟨g2, 0, none⟩))]) (by kernel_rfl) ?_
    refine WR.eqF (F' := [(6, u53 0), (7, .pointer (some ⟨b, o, none⟩)), (8, .int .i64 at_), (9, .int .i64 size), (10, u53 4), (11, u53 5), (12, u53 6), (0, .pointer (some ⟨g0, 0, none⟩)), (1, .pointer (some ⟨g1, 0, none⟩)), (2, .pointer (some ⟨g2, 0, none⟩))]) (by rw [hp62, hp63, hp64]) ?_
    refine WR.callX (dst := some 10) (by kernel_rfl) (part_size b o at_ size w54 (by omega)) ?_
    intro w65 hc66
    have hz68 := hc66.size
    have hC67 := hC57.pure hc66
    have hb69 := hb59.pure hc66
    have hb70 := hb60.pure hc66
    have hb71 := hb61.pure hc66
    exact panicV (P := Try.prog) (fn := Try.f32) ⟨rfl, hC67⟩
  ·
    intro u72 w73 hW74 hp75
    exact (hp75 4 (by kernel_rfl)).elim
  ·
    intro u76 w77 hW78 hp79
    have hz81 := hW78.size
    have hC80 := (Chg.refl [] w).pure hW78
    have hb82 := hb0.pure hW78
    have hb83 := hb1.pure hW78
    have hb84 := hb2.pure hW78
    refine WR.eqF (F' := [(6, u76 0), (7, u76 1), (8, u76 2), (9, u76 3), (10, u76 4), (11, u76 5), (12, u76 6), (0, .pointer (some ⟨g0, 0, none⟩)), (1, .pointer (some ⟨g1, 0, none⟩)), (2, .pointer (some ⟨g2, 0, none⟩))]) (by kernel_rfl) ?_
    refine WR.valR (dst := some 12) (v := .int .i64 (0 : Int)) (w' := w77) (by kernel_rfl) ?_
    refine WR.fin (by kernel_rfl) ?_
    exact fun _ ha => ⟨Chg.refl _ _, _, ha.cast (by kernel_rfl), ⟨⟨fun h => absurd h (by decide), alNone (by decide)⟩, rfl⟩⟩
  ·
    intro u85 w86 hW87 hr88 hD89 hal90
    exact (hr88 4 (by omega)).elim

theorem Read1_at (g0 g1 g2 : Nat) (b o cap : Nat) (xs : List Bool) (at_ size : Int) (w : World) (hb0 : Blk w g0 #[.slice (some ⟨b, o, none⟩) 512 cap] 22) (hb1 : Blk w g1 #[.int .i64 at_] 2) (hb2 : Blk w g2 #[.int .i64 size] 3) (_hr : Rg w (some ⟨b, o, none⟩) (bo xs)) (_hl : xs.length = 512) (_hs : (size = 1 ∨ size = 2 ∨ size = 4 ∨ size = 8)) (_hp : at_ < -512 ∨ at_ > -size) : Calls Try.prog 32 #[.pointer (some ⟨g0, 0, none⟩), .pointer (some ⟨g1, 0, none⟩), .pointer (some ⟨g2, 0, none⟩)] w (Pan w (.iface 25 (.int .i64 112))) := by
  refine calls_of_CW Try.func32 rfl (n := 20) Try.ntmps32 (by kernel_rfl) [0, 1, 2] (F := [(0, .pointer (some ⟨g0, 0, none⟩)), (1, .pointer (some ⟨g1, 0, none⟩)), (2, .pointer (some ⟨g2, 0, none⟩))]) (by kernel_rfl) ?_
  have hg1 := hb0.lt
  have hg2 := hb1.lt
  have hg3 := hb2.lt
  refine CW.seq fun K4 hK4 => ?_
  refine CW.region ?_
  refine WR.batch 1 [(0, .pointer (some ⟨g0, 0, none⟩)), (1, .pointer (some ⟨g1, 0, none⟩)), (2, .pointer (some ⟨g2, 0, none⟩))] (by kernel_rfl) ?_
  refine WR.fin (by kernel_rfl) ?_
  refine go hK4 ?_
  refine CW.seq fun K5 hK5 => ?_
  refine CW.seq fun K6 hK6 => ?_
  refine CW.keep [0, 1, 2] (F' := [(0, .pointer (some ⟨g0, 0, none⟩)), (1, .pointer (some ⟨g1, 0, none⟩)), (2, .pointer (some ⟨g2, 0, none⟩))]) (by kernel_rfl) ?_
  refine CW.regionF 7 [] [] (by kernel_rfl) (fun w' => Chg [] w w') (fun i v w' => match i with | 0 => v = .slice (some ⟨b, o, none⟩) 512 cap | 1 => v = .pointer (some ⟨b, o, none⟩) | 2 => v = .int .i64 at_ | 3 => v = .int .i64 size | 4 => False | 5 => False | 6 => v = .int .i64 (0 : Int) | _ => True) (fun j x w hj h => match j, hj, h with | 0, hj, h => absurd hj (by decide) | 1, hj, h => absurd hj (by decide) | 2, hj, h => absurd hj (by decide) | 3, hj, h => absurd hj (by decide) | 4, hj, h => absurd hj (by decide) | 5, hj, h => absurd hj (by decide) | 6, hj, h => absurd hj (by decide) | j + 7, hj, _ => absurd hj (by simp)) (by kernel_rfl) (by kernel_rfl) (by kernel_rfl) (Chg.drew w) (fun _ _ h h' => h.pure h') ?_ ⟨?_, ?_, ?_, ?_, ?_, ?_, ?_, trivial⟩ ?_
  ·
    intro i v w1 w2 h hc
    match i, h with
    | 0, h => exact h
    | 1, h => exact h
    | 2, h => exact h
    | 3, h => exact h
    | 4, h => exact h
    | 5, h => exact h
    | 6, h => exact h
    | n + 7, h => trivial
  ·
    intro u9 w10 hW11 hp12
    have hz14 := hW11.size
    have hC13 := (Chg.refl [] w).pure hW11
    have hb15 := hb0.pure hW11
    have hb16 := hb1.pure hW11
    have hb17 := hb2.pure hW11
    refine WR.eqF (F' := [(6, u9 0), (7, u9 1), (8, u9 2), (9, u9 3), (10, u9 4), (11, u9 5), (12, u9 6), (0, .pointer (some ⟨g0, 0, none⟩)), (1, .pointer (some ⟨g1, 0, none⟩)), (2, .pointer (some ⟨g2, 0, none⟩))]) (by kernel_rfl) ?_
    refine WR.load (dst := some 6) (t := 22) (o := 0) hb15 (by kernel_rfl) (.slice (some ⟨b, o, none⟩) 512 cap) (by kernel_rfl) ?_
    refine WR.fin (by kernel_rfl) ?_
    exact fun _ ha => ⟨Chg.refl _ _, _, ha.cast (by kernel_rfl), ⟨⟨fun h => absurd h (by decide), alNone (by decide)⟩, rfl⟩⟩
  ·
    intro u18 w19 hW20 hp21
    have hz23 := hW20.size
    have hC22 := (Chg.refl [] w).pure hW20
    have hb24 := hb0.pure hW20
    have hb25 := hb1.pure hW20
    have hb26 := hb2.pure hW20
    have hp27 : u18 0 = .slice (some ⟨b, o, none⟩) 512 cap := hp21 0 (by kernel_rfl)
    refine WR.eqF (F' := [(6, u18 0), (7, u18 1), (8, u18 2), (9, u18 3), (10, u18 4), (11, u18 5), (12, u18 6), (0, .pointer (some ⟨g0, 0, none⟩)), (1, .pointer (some ⟨g1, 0, none⟩)), (2, .pointer (some ⟨g2, 0, none⟩))]) (by kernel_rfl) ?_
    refine WR.eqF (F' := [(6, .slice (some ⟨b, o, none⟩) 512 cap), (7, u18 1), (8, u18 2), (9, u18 3), (10, u18 4), (11, u18 5), (12, u18 6), (0, .pointer (some ⟨g0, 0, none⟩)), (1, .pointer (some ⟨g1, 0, none⟩)), (2, .pointer (some ⟨g2, 0, none⟩))]) (by rw [hp27]) ?_
    refine WR.call (dst := some 7) (by kernel_rfl) (of_yes b o cap w19) ?_
    rintro _ w28 hc29 rfl
    have hz31 := hc29.size
    have hC30 := hC22.pure hc29
    have hb32 := hb24.pure hc29
    have hb33 := hb25.pure hc29
    have hb34 := hb26.pure hc29
    refine WR.fin (by kernel_rfl) ?_
    exact fun _ ha => ⟨hc29, _, ha.cast (show upd [(6, .slice (some ⟨b, o, none⟩) 512 cap), (7, u18 1), (8, u18 2), (9, u18 3), (10, u18 4), (11, u18 5), (12, u18 6), (0, .pointer (some ⟨g0, 0, none⟩)), (1, .pointer (some ⟨g1, 0, none⟩)), (2, .pointer (some ⟨g2, 0, none⟩))] (some 7) _ = upd [(6, u18 0), (7, u18 1), (8, u18 2), (9, u18 3), (10, u18 4), (11, u18 5), (12, u18 6), (0, .pointer (some ⟨g0, 0, none⟩)), (1, .pointer (some ⟨g1, 0, none⟩)), (2, .pointer (some ⟨g2, 0, none⟩))] (some 7) _ from by rw [hp27]), ⟨⟨fun h => absurd h (by decide), alNone (by decide)⟩, rfl⟩⟩
  ·
    intro u35 w36 hW37 hp38
    have hz40 := hW37.size
    have hC39 := (Chg.refl [] w).pure hW37
    have hb41 := hb0.pure hW37
    have hb42 := hb1.pure hW37
    have hb43 := hb2.pure hW37
    refine WR.eqF (F' := [(6, u35 0), (7, u35 1), (8, u35 2), (9, u35 3), (10, u35 4), (11, u35 5), (12, u35 6), (0, .pointer (some ⟨g0, 0, none⟩)), (1, .pointer (some ⟨g1, 0, none⟩)), (2, .pointer (some ⟨g2, 0, none⟩))]) (by kernel_rfl) ?_
    refine WR.load (dst := some 8) (t := 2) (o := 0) hb42 (by kernel_rfl) (.int .i64 at_) (by kernel_rfl) ?_
    refine WR.fin (by kernel_rfl) ?_
    exact fun _ ha => ⟨Chg.refl _ _, _, ha.cast (by kernel_rfl), ⟨⟨fun h => absurd h (by decide), alNone (by decide)⟩, rfl⟩⟩
  ·
    intro u44 w45 hW46 hp47
    have hz49 := hW46.size
    have hC48 := (Chg.refl [] w).pure hW46
    have hb50 := hb0.pure hW46
    have hb51 := hb1.pure hW46
    have hb52 := hb2.pure hW46
    refine WR.eqF (F' := [(6, u44 0), (7, u44 1), (8, u44 2), (9, u44 3), (10, u44 4), (11, u44 5), (12, u44 6), (0, .pointer (some ⟨g0, 0, none⟩)), (1, .pointer (some ⟨g1, 0, none⟩)), (2, .pointer (some ⟨g2, 0, none⟩))]) (by kernel_rfl) ?_
    refine WR.load (dst := some 9) (t := 3) (o := 0) hb52 (by kernel_rfl) (.int .i64 size) (by kernel_rfl) ?_
    refine WR.fin (by kernel_rfl) ?_
    exact fun _ ha => ⟨Chg.refl _ _, _, ha.cast (by kernel_rfl), ⟨⟨fun h => absurd h (by decide), alNone (by decide)⟩, rfl⟩⟩
  ·
    intro u53 w54 hW55 hp56
    have hz58 := hW55.size
    have hC57 := (Chg.refl [] w).pure hW55
    have hb59 := hb0.pure hW55
    have hb60 := hb1.pure hW55
    have hb61 := hb2.pure hW55
    have hp62 : u53 1 = .pointer (some ⟨b, o, none⟩) := hp56 1 (by kernel_rfl)
    have hp63 : u53 2 = .int .i64 at_ := hp56 2 (by kernel_rfl)
    have hp64 : u53 3 = .int .i64 size := hp56 3 (by kernel_rfl)
    refine WR.eqF (F' := [(6, u53 0), (7, u53 1), (8, u53 2), (9, u53 3), (10, u53 4), (11, u53 5), (12, u53 6), (0, .pointer (some ⟨g0, 0, none⟩)), (1, .pointer (some ⟨g1, 0, none⟩)), (2, .pointer (some ⟨g2, 0, none⟩))]) (by kernel_rfl) ?_
    refine WR.eqF (F' := [(6, u53 0), (7, .pointer (some ⟨b, o, none⟩)), (8, .int .i64 at_), (9, .int .i64 size), (10, u53 4), (11, u53 5), (12, u53 6), (0, .pointer (some ⟨g0, 0, none⟩)), (1, .pointer (some ⟨g1, 0, none⟩)), (2, .pointer (some ⟨g2, 0, none⟩))]) (by rw [hp62, hp63, hp64]) ?_
    refine WR.callX (dst := some 10) (by kernel_rfl) (part_at b o at_ size w54 (by omega) (by omega)) ?_
    intro w65 hc66
    have hz68 := hc66.size
    have hC67 := hC57.pure hc66
    have hb69 := hb59.pure hc66
    have hb70 := hb60.pure hc66
    have hb71 := hb61.pure hc66
    exact panicV (P := Try.prog) (fn := Try.f32) ⟨rfl, hC67⟩
  ·
    intro u72 w73 hW74 hp75
    exact (hp75 4 (by kernel_rfl)).elim
  ·
    intro u76 w77 hW78 hp79
    have hz81 := hW78.size
    have hC80 := (Chg.refl [] w).pure hW78
    have hb82 := hb0.pure hW78
    have hb83 := hb1.pure hW78
    have hb84 := hb2.pure hW78
    refine WR.eqF (F' := [(6, u76 0), (7, u76 1), (8, u76 2), (9, u76 3), (10, u76 4), (11, u76 5), (12, u76 6), (0, .pointer (some ⟨g0, 0, none⟩)), (1, .pointer (some ⟨g1, 0, none⟩)), (2, .pointer (some ⟨g2, 0, none⟩))]) (by kernel_rfl) ?_
    refine WR.valR (dst := some 12) (v := .int .i64 (0 : Int)) (w' := w77) (by kernel_rfl) ?_
    refine WR.fin (by kernel_rfl) ?_
    exact fun _ ha => ⟨Chg.refl _ _, _, ha.cast (by kernel_rfl), ⟨⟨fun h => absurd h (by decide), alNone (by decide)⟩, rfl⟩⟩
  ·
    intro u85 w86 hW87 hr88 hD89 hal90
    exact (hr88 4 (by omega)).elim

theorem Within1_ok (g0 g1 : Nat) (b1 o1 cap1 : Nat) (xs : List Bool) (b2 o2 cap2 : Nat) (ys : List Bool) (w : World) (hb0 : Blk w g0 #[.slice (some ⟨b1, o1, none⟩) 512 cap1] 22) (hb1 : Blk w g1 #[.slice (some ⟨b2, o2, none⟩) 512 cap2] 22) (hr1 : Rg w (some ⟨b1, o1, none⟩) (bo xs)) (hl1 : xs.length = 512) (hr2 : Rg w (some ⟨b2, o2, none⟩) (bo ys)) (hl2 : ys.length = 512)  : Calls Try.prog 33 #[.pointer (some ⟨g0, 0, none⟩), .pointer (some ⟨g1, 0, none⟩)] w (RetV w (.bool (withinE xs ys))) := by
  refine calls_of_CW Try.func33 rfl (n := 27) Try.ntmps33 (by kernel_rfl) [0, 1] (F := [(0, .pointer (some ⟨g0, 0, none⟩)), (1, .pointer (some ⟨g1, 0, none⟩))]) (by kernel_rfl) ?_
  have hg1 := hb0.lt
  have hg2 := hb1.lt
  refine CW.seq fun K3 hK3 => ?_
  refine CW.region ?_
  refine WR.batch 1 [(0, .pointer (some ⟨g0, 0, none⟩)), (1, .pointer (some ⟨g1, 0, none⟩))] (by kernel_rfl) ?_
  refine WR.fin (by kernel_rfl) ?_
  refine go hK3 ?_
  refine CW.seq fun K4 hK4 => ?_
  refine CW.regionQ (by kernel_rfl) (by kernel_rfl) ?_
  refine WQ.load (dst := some 6) (t := 22) (o := 0) (fun _ hq => hb0.pure hq) (by kernel_rfl) (.slice (some ⟨b1, o1, none⟩) 512 cap1) (by kernel_rfl) ?_
  refine WQ.call (dst := some 7) (f := 27) (args := #[.slice (some ⟨b1, o1, none⟩) 512 cap1]) (.pointer (some ⟨b1, o1, none⟩)) (fun _ => by kernel_rfl) (fun _ _ h h' => h.pure h') (fun wq hq => of_yes b1 o1 cap1 wq) ?_
  refine WQ.load (dst := some 8) (t := 22) (o := 0) (fun _ hq => hb1.pure hq) (by kernel_rfl) (.slice (some ⟨b2, o2, none⟩) 512 cap2) (by kernel_rfl) ?_
  refine WQ.call (dst := some 9) (f := 27) (args := #[.slice (some ⟨b2, o2, none⟩) 512 cap2]) (.pointer (some ⟨b2, o2, none⟩)) (fun _ => by kernel_rfl) (fun _ _ h h' => h.pure h') (fun wq hq => of_yes b2 o2 cap2 wq) ?_
  refine WQ.val (dst := some 3) (.pointer (some ⟨b1, o1, none⟩)) (fun _ => by kernel_rfl) ?_
  refine WQ.val (dst := some 4) (.pointer (some ⟨b2, o2, none⟩)) (fun _ => by kernel_rfl) ?_
  refine WQ.fin (by kernel_rfl) ?_
  intro w5 hc6
  have hz8 := hc6.size
  have hC7 := (Chg.refl [] w).pure hc6
  have hb9 := hb0.pure hc6
  have hb10 := hb1.pure hc6
  refine go hK4 ?_
  refine CW.seq fun K11 hK11 => ?_
  refine CW.seq fun K12 hK12 => ?_
  refine CW.region ?_
  refine WR.batch 1 [(3, .pointer (some ⟨b1, o1, none⟩)), (4, .pointer (some ⟨b2, o2, none⟩)), (10, .int .i64 (0 : Int))] (by kernel_rfl) ?_
  refine WR.fin (by kernel_rfl) ?_
  refine go hK12 ?_
  refine CW.block ?_
  refine CW.loop (σ := Nat) (fun k w13 => Chg [] w w13 ∧ (k ≤ 512) ∧ (withinB xs ys k = true)) (fun k => [(3, .pointer (some ⟨b1, o1, none⟩)), (4, .pointer (some ⟨b2, o2, none⟩)), (10, .int .i64 ((k : Nat) : Int))]) (fun k => 512 - k) (0) ⟨hC7, (by omega), rfl⟩ [3, 4, 10] (by kernel_rfl) ?_
  rintro k w13 ⟨hC14, hk, hall⟩
  refine CW.seq fun K15 hK15 => ?_
  refine CW.region ?_
  refine WR.batch 1 [(3, .pointer (some ⟨b1, o1, none⟩)), (4, .pointer (some ⟨b2, o2, none⟩)), (10, .int .i64 ((k : Nat) : Int)), (11, .bool (decide (((k : Nat) : Int) < (512 : Int))))] (by kernel_rfl) ?_
  refine WR.fin (by kernel_rfl) ?_
  refine go hK15 ?_
  refine CW.seq fun K16 hK16 => ?_
  refine CW.cond (decide (((k : Nat) : Int) < (512 : Int))) (by kernel_rfl) (fun ht17 => ?_) (fun ht17 => ?_)
  ·
    replace ht17 : ((k : Nat) : Int) < (512 : Int) := (of_decide_eq_true ht17)
    refine CW.skip ?_
    refine go hK16 ?_
    refine CW.seq fun K18 hK18 => ?_
    refine CW.block ?_
    refine CW.seq fun K19 hK19 => ?_
    refine CW.region ?_
    refine WR.batch 2 [(3, .pointer (some ⟨b1, o1, none⟩)), (4, .pointer (some ⟨b2, o2, none⟩)), (5, .int .i64 ((k : Nat) : Int)), (10, .int .i64 ((k : Nat) : Int))] (by kernel_rfl) ?_
    refine WR.fin (by kernel_rfl) ?_
    refine go hK19 ?_
    refine CW.seq fun K20 hK20 => ?_
    refine CW.region ?_
    refine WR.batch 3 [(3, .pointer (some ⟨b1, o1, none⟩)), (4, .pointer (some ⟨b2, o2, none⟩)), (5, .int .i64 ((k : Nat) : Int)), (10, .int .i64 ((k : Nat) : Int)), (14, .int .i64 ((k : Nat) : Int)), (15, .pointer (some ⟨b2, o2, none⟩))] (by kernel_rfl) ?_
    refine WR.indexA (dst := some 16) (t := 47) (e := 4) (b := b2) (o := o2) (len := 512) (kk := .i64) (i := ((k : Nat) : Int)) (sz := 1) (by kernel_rfl) (by kernel_rfl) (by kernel_rfl) (k) (by omega) (by omega) (o2 + k) (by omega) ?_
    refine WR.load1 (dst := some 17) (t := 4) (a := ⟨b2, o2 + k, none⟩) (by kernel_rfl) (by kernel_rfl) (.bool (ys.getD k false)) ((hr2.pure hC14) k _ (getMap _ ys (k) false (by omega))).2 ?_
    refine WR.batch 1 [(3, .pointer (some ⟨b1, o1, none⟩)), (4, .pointer (some ⟨b2, o2, none⟩)), (5, .int .i64 ((k : Nat) : Int)), (10, .int .i64 ((k : Nat) : Int)), (18, .bool (ys.getD k false))] (by kernel_rfl) ?_
    refine WR.merge 13 [(3, .pointer (some ⟨b1, o1, none⟩)), (4, .pointer (some ⟨b2, o2, none⟩)), (10, .int .i64 ((k : Nat) : Int)), (25, .bool ((ys.getD k false) && (!(xs.getD k false))))] (fun Q' => ?_) ?_
    ·
      cases hg21 : ys.getD k false
      ·
        intro hM22
        refine WR.batch 7 [(3, .pointer (some ⟨b1, o1, none⟩)), (4, .pointer (some ⟨b2, o2, none⟩)), (10, .int .i64 ((k : Nat) : Int)), (25, .bool false)] (by kernel_rfl) ?_
        exact WR.keep [3, 4, 10, 25] (by kernel_rfl) hM22
      ·
        intro hM22
        refine WR.batch 3 [(3, .pointer (some ⟨b1, o1, none⟩)), (4, .pointer (some ⟨b2, o2, none⟩)), (10, .int .i64 ((k : Nat) : Int)), (18, .bool true), (20, .int .i64 ((k : Nat) : Int)), (21, .pointer (some ⟨b1, o1, none⟩))] (by kernel_rfl) ?_
        refine WR.indexA (dst := some 22) (t := 47) (e := 4) (b := b1) (o := o1) (len := 512) (kk := .i64) (i := ((k : Nat) : Int)) (sz := 1) (by kernel_rfl) (by kernel_rfl) (by kernel_rfl) (k) (by omega) (by omega) (o1 + k) (by omega) ?_
        refine WR.load1 (dst := some 23) (t := 4) (a := ⟨b1, o1 + k, none⟩) (by kernel_rfl) (by kernel_rfl) (.bool (xs.getD k false)) ((hr1.pure hC14) k _ (getMap _ xs (k) false (by omega))).2 ?_
        refine WR.batch 2 [(3, .pointer (some ⟨b1, o1, none⟩)), (4, .pointer (some ⟨b2, o2, none⟩)), (10, .int .i64 ((k : Nat) : Int)), (25, .bool (!(xs.getD k false)))] (by kernel_rfl) ?_
        exact WR.keep [3, 4, 10, 25] (by kernel_rfl) hM22
    ·
      refine WR.fin (by kernel_rfl) ?_
      refine go hK20 ?_
      refine CW.cond (((ys.getD k false) && (!(xs.getD k false)))) (by kernel_rfl) (fun ht23 => ?_) (fun ht23 => ?_)
      ·
        replace ht23 : ((ys.getD k false) = true) ∧ ((xs.getD k false) = false) := ⟨(bAndT ht23).1, (bNotT (bAndT ht23).2)⟩
        have hx := ht23
        refine CW.seq fun K24 hK24 => ?_
        refine CW.region ?_
        refine WR.batch 1 [(2, .bool false)] (by kernel_rfl) ?_
        refine WR.fin (by kernel_rfl) ?_
        refine go hK24 ?_
        refine CW.ret ?_
        exact retV (.bool false) (by kernel_rfl) ⟨hC14, by rw [withinE_bad (k := k) (by assumption) hx.1 hx.2]⟩
      ·
        replace ht23 : ((ys.getD k false) = false) ∨ ((xs.getD k false) = true) := (orMap (bAndF ht23) (fun h => h) (fun h => (bNotF h)))
        have hx := ht23
        refine CW.skip ?_
        refine go hK18 ?_
        refine CW.region ?_
        refine WR.batch 1 [(3, .pointer (some ⟨b1, o1, none⟩)), (4, .pointer (some ⟨b2, o2, none⟩)), (26, .int .i64 (IntKind.i64.wrap (((k : Nat) : Int) + (1 : Int))))] (by kernel_rfl) ?_
        have hw25 : IntKind.i64.wrap (((k : Nat) : Int) + (1 : Int)) = (((k : Nat) : Int) + (1 : Int)) := IntWalk.i64_in _ (by omega)
        refine WR.eqF (F' := [(3, .pointer (some ⟨b1, o1, none⟩)), (4, .pointer (some ⟨b2, o2, none⟩)), (26, .int .i64 (((k : Nat) : Int) + (1 : Int)))]) (by rw [hw25]) ?_
        refine WR.batch 1 [(3, .pointer (some ⟨b1, o1, none⟩)), (4, .pointer (some ⟨b2, o2, none⟩)), (10, .int .i64 (((k : Nat) : Int) + (1 : Int)))] (by kernel_rfl) ?_
        refine WR.fin (by kernel_rfl) ?_
        exact fun _ ha => ⟨k + 1, ⟨hC14, (by omega), withinB_step hall hx⟩, (by dsimp only; omega), ha.keep [3, 4, 10] (by kernel_rfl)⟩
  ·
    replace ht17 : ¬ (((k : Nat) : Int) < (512 : Int)) := (of_decide_eq_false ht17)
    refine CW.exit ?_
    refine go hK11 ?_
    refine CW.seq fun K26 hK26 => ?_
    refine CW.region ?_
    refine WR.batch 1 [(2, .bool true)] (by kernel_rfl) ?_
    refine WR.fin (by kernel_rfl) ?_
    refine go hK26 ?_
    refine CW.ret ?_
    exact retV (.bool true) (by kernel_rfl) ⟨hC14, by rw [withinE_ok ⟨hl1, hl2⟩ hk (by assumption) hall]⟩

theorem Within1_00 (g0 g1 : Nat) (ad1 : Option Addr) (cap1 : Nat) (xs : List Bool) (ad2 : Option Addr) (cap2 : Nat) (ys : List Bool) (w : World) (hb0 : Blk w g0 #[.slice ad1 xs.length cap1] 22) (hb1 : Blk w g1 #[.slice ad2 ys.length cap2] 22) (_hl1 : xs.length ≠ 512) (_hl2 : ys.length ≠ 512)  : Calls Try.prog 33 #[.pointer (some ⟨g0, 0, none⟩), .pointer (some ⟨g1, 0, none⟩)] w (Pan w (.iface 25 (.int .i64 2))) := by
  refine calls_of_CW Try.func33 rfl (n := 27) Try.ntmps33 (by kernel_rfl) [0, 1] (F := [(0, .pointer (some ⟨g0, 0, none⟩)), (1, .pointer (some ⟨g1, 0, none⟩))]) (by kernel_rfl) ?_
  have hg1 := hb0.lt
  have hg2 := hb1.lt
  refine CW.seq fun K3 hK3 => ?_
  refine CW.region ?_
  refine WR.batch 1 [(0, .pointer (some ⟨g0, 0, none⟩)), (1, .pointer (some ⟨g1, 0, none⟩))] (by kernel_rfl) ?_
  refine WR.fin (by kernel_rfl) ?_
  refine go hK3 ?_
  refine CW.seq fun K4 hK4 => ?_
  refine CW.keep [0, 1] (F' := [(0, .pointer (some ⟨g0, 0, none⟩)), (1, .pointer (some ⟨g1, 0, none⟩))]) (by kernel_rfl) ?_
  refine CW.regionF 5 [] [] (by kernel_rfl) (fun w' => Chg [] w w') (fun i v w' => match i with | 0 => v = .slice ad1 xs.length cap1 | 1 => False | 2 => v = .slice ad2 ys.length cap2 | 3 => False | 4 => False | _ => True) (fun j x w hj h => match j, hj, h with | 0, hj, h => absurd hj (by decide) | 1, hj, h => absurd hj (by decide) | 2, hj, h => absurd hj (by decide) | 3, hj, h => absurd hj (by decide) | 4, hj, h => absurd hj (by decide) | j + 5, hj, _ => absurd hj (by simp)) (by kernel_rfl) (by kernel_rfl) (by kernel_rfl) (Chg.drew w) (fun _ _ h h' => h.pure h') ?_ ⟨?_, ?_, ?_, ?_, ?_, trivial⟩ ?_
  ·
    intro i v w1 w2 h hc
    match i, h with
    | 0, h => exact h
    | 1, h => exact h
    | 2, h => exact h
    | 3, h => exact h
    | 4, h => exact h
    | n + 5, h => trivial
  ·
    intro u7 w8 hW9 hp10
    have hz12 := hW9.size
    have hC11 := (Chg.refl [] w).pure hW9
    have hb13 := hb0.pure hW9
    have hb14 := hb1.pure hW9
    refine WR.eqF (F' := [(6, u7 0), (7, u7 1), (8, u7 2), (9, u7 3), (3, u7 4), (0, .pointer (some ⟨g0, 0, none⟩)), (1, .pointer (some ⟨g1, 0, none⟩))]) (by kernel_rfl) ?_
    refine WR.load (dst := some 6) (t := 22) (o := 0) hb13 (by kernel_rfl) (.slice ad1 xs.length cap1) (by kernel_rfl) ?_
    refine WR.fin (by kernel_rfl) ?_
    exact fun _ ha => ⟨Chg.refl _ _, _, ha.cast (by kernel_rfl), ⟨⟨fun h => absurd h (by decide), alNone (by decide)⟩, rfl⟩⟩
  ·
    intro u15 w16 hW17 hp18
    have hz20 := hW17.size
    have hC19 := (Chg.refl [] w).pure hW17
    have hb21 := hb0.pure hW17
    have hb22 := hb1.pure hW17
    have hp23 : u15 0 = .slice ad1 xs.length cap1 := hp18 0 (by kernel_rfl)
    refine WR.eqF (F' := [(6, u15 0), (7, u15 1), (8, u15 2), (9, u15 3), (3, u15 4), (0, .pointer (some ⟨g0, 0, none⟩)), (1, .pointer (some ⟨g1, 0, none⟩))]) (by kernel_rfl) ?_
    refine WR.eqF (F' := [(6, .slice ad1 xs.length cap1), (7, u15 1), (8, u15 2), (9, u15 3), (3, u15 4), (0, .pointer (some ⟨g0, 0, none⟩)), (1, .pointer (some ⟨g1, 0, none⟩))]) (by rw [hp23]) ?_
    refine WR.callX (dst := some 7) (by kernel_rfl) (of_no ad1 xs.length cap1 w16 (by omega)) ?_
    intro w24 hc25
    have hz27 := hc25.size
    have hC26 := hC19.pure hc25
    have hb28 := hb21.pure hc25
    have hb29 := hb22.pure hc25
    exact panicV (P := Try.prog) (fn := Try.f33) ⟨rfl, hC26⟩
  ·
    intro u30 w31 hW32 hp33
    have hz35 := hW32.size
    have hC34 := (Chg.refl [] w).pure hW32
    have hb36 := hb0.pure hW32
    have hb37 := hb1.pure hW32
    refine WR.eqF (F' := [(6, u30 0), (7, u30 1), (8, u30 2), (9, u30 3), (3, u30 4), (0, .pointer (some ⟨g0, 0, none⟩)), (1, .pointer (some ⟨g1, 0, none⟩))]) (by kernel_rfl) ?_
    refine WR.load (dst := some 8) (t := 22) (o := 0) hb37 (by kernel_rfl) (.slice ad2 ys.length cap2) (by kernel_rfl) ?_
    refine WR.fin (by kernel_rfl) ?_
    exact fun _ ha => ⟨Chg.refl _ _, _, ha.cast (by kernel_rfl), ⟨⟨fun h => absurd h (by decide), alNone (by decide)⟩, rfl⟩⟩
  ·
    intro u38 w39 hW40 hp41
    exact (hp41 1 (by kernel_rfl)).elim
  ·
    intro u42 w43 hW44 hp45
    exact (hp45 1 (by kernel_rfl)).elim
  ·
    intro u46 w47 hW48 hr49 hD50 hal51
    exact (hr49 1 (by omega)).elim

theorem Within1_01 (g0 g1 : Nat) (ad1 : Option Addr) (cap1 : Nat) (xs : List Bool) (b2 o2 cap2 : Nat) (ys : List Bool) (w : World) (hb0 : Blk w g0 #[.slice ad1 xs.length cap1] 22) (hb1 : Blk w g1 #[.slice (some ⟨b2, o2, none⟩) 512 cap2] 22) (_hl1 : xs.length ≠ 512) (_hr2 : Rg w (some ⟨b2, o2, none⟩) (bo ys)) (_hl2 : ys.length = 512)  : Calls Try.prog 33 #[.pointer (some ⟨g0, 0, none⟩), .pointer (some ⟨g1, 0, none⟩)] w (Pan w (.iface 25 (.int .i64 2))) := by
  refine calls_of_CW Try.func33 rfl (n := 27) Try.ntmps33 (by kernel_rfl) [0, 1] (F := [(0, .pointer (some ⟨g0, 0, none⟩)), (1, .pointer (some ⟨g1, 0, none⟩))]) (by kernel_rfl) ?_
  have hg1 := hb0.lt
  have hg2 := hb1.lt
  refine CW.seq fun K3 hK3 => ?_
  refine CW.region ?_
  refine WR.batch 1 [(0, .pointer (some ⟨g0, 0, none⟩)), (1, .pointer (some ⟨g1, 0, none⟩))] (by kernel_rfl) ?_
  refine WR.fin (by kernel_rfl) ?_
  refine go hK3 ?_
  refine CW.seq fun K4 hK4 => ?_
  refine CW.keep [0, 1] (F' := [(0, .pointer (some ⟨g0, 0, none⟩)), (1, .pointer (some ⟨g1, 0, none⟩))]) (by kernel_rfl) ?_
  refine CW.regionF 5 [] [] (by kernel_rfl) (fun w' => Chg [] w w') (fun i v w' => match i with | 0 => v = .slice ad1 xs.length cap1 | 1 => False | 2 => v = .slice (some ⟨b2, o2, none⟩) 512 cap2 | 3 => False | 4 => False | _ => True) (fun j x w hj h => match j, hj, h with | 0, hj, h => absurd hj (by decide) | 1, hj, h => absurd hj (by decide) | 2, hj, h => absurd hj (by decide) | 3, hj, h => absurd hj (by decide) | 4, hj, h => absurd hj (by decide) | j + 5, hj, _ => absurd hj (by simp)) (by kernel_rfl) (by kernel_rfl) (by kernel_rfl) (Chg.drew w) (fun _ _ h h' => h.pure h') ?_ ⟨?_, ?_, ?_, ?_, ?_, trivial⟩ ?_
  ·
    intro i v w1 w2 h hc
    match i, h with
    | 0, h => exact h
    | 1, h => exact h
    | 2, h => exact h
    | 3, h => exact h
    | 4, h => exact h
    | n + 5, h => trivial
  ·
    intro u7 w8 hW9 hp10
    have hz12 := hW9.size
    have hC11 := (Chg.refl [] w).pure hW9
    have hb13 := hb0.pure hW9
    have hb14 := hb1.pure hW9
    refine WR.eqF (F' := [(6, u7 0), (7, u7 1), (8, u7 2), (9, u7 3), (3, u7 4), (0, .pointer (some ⟨g0, 0, none⟩)), (1, .pointer (some ⟨g1, 0, none⟩))]) (by kernel_rfl) ?_
    refine WR.load (dst := some 6) (t := 22) (o := 0) hb13 (by kernel_rfl) (.slice ad1 xs.length cap1) (by kernel_rfl) ?_
    refine WR.fin (by kernel_rfl) ?_
    exact fun _ ha => ⟨Chg.refl _ _, _, ha.cast (by kernel_rfl), ⟨⟨fun h => absurd h (by decide), alNone (by decide)⟩, rfl⟩⟩
  ·
    intro u15 w16 hW17 hp18
    have hz20 := hW17.size
    have hC19 := (Chg.refl [] w).pure hW17
    have hb21 := hb0.pure hW17
    have hb22 := hb1.pure hW17
    have hp23 : u15 0 = .slice ad1 xs.length cap1 := hp18 0 (by kernel_rfl)
    refine WR.eqF (F' := [(6, u15 0), (7, u15 1), (8, u15 2), (9, u15 3), (3, u15 4), (0, .pointer (some ⟨g0, 0, none⟩)), (1, .pointer (some ⟨g1, 0, none⟩))]) (by kernel_rfl) ?_
    refine WR.eqF (F' := [(6, .slice ad1 xs.length cap1), (7, u15 1), (8, u15 2), (9, u15 3), (3, u15 4), (0, .pointer (some ⟨g0, 0, none⟩)), (1, .pointer (some ⟨g1, 0, none⟩))]) (by rw [hp23]) ?_
    refine WR.callX (dst := some 7) (by kernel_rfl) (of_no ad1 xs.length cap1 w16 (by omega)) ?_
    intro w24 hc25
    have hz27 := hc25.size
    have hC26 := hC19.pure hc25
    have hb28 := hb21.pure hc25
    have hb29 := hb22.pure hc25
    exact panicV (P := Try.prog) (fn := Try.f33) ⟨rfl, hC26⟩
  ·
    intro u30 w31 hW32 hp33
    have hz35 := hW32.size
    have hC34 := (Chg.refl [] w).pure hW32
    have hb36 := hb0.pure hW32
    have hb37 := hb1.pure hW32
    refine WR.eqF (F' := [(6, u30 0), (7, u30 1), (8, u30 2), (9, u30 3), (3, u30 4), (0, .pointer (some ⟨g0, 0, none⟩)), (1, .pointer (some ⟨g1, 0, none⟩))]) (by kernel_rfl) ?_
    refine WR.load (dst := some 8) (t := 22) (o := 0) hb37 (by kernel_rfl) (.slice (some ⟨b2, o2, none⟩) 512 cap2) (by kernel_rfl) ?_
    refine WR.fin (by kernel_rfl) ?_
    exact fun _ ha => ⟨Chg.refl _ _, _, ha.cast (by kernel_rfl), ⟨⟨fun h => absurd h (by decide), alNone (by decide)⟩, rfl⟩⟩
  ·
    intro u38 w39 hW40 hp41
    exact (hp41 1 (by kernel_rfl)).elim
  ·
    intro u42 w43 hW44 hp45
    exact (hp45 1 (by kernel_rfl)).elim
  ·
    intro u46 w47 hW48 hr49 hD50 hal51
    exact (hr49 1 (by omega)).elim

theorem Within1_10 (g0 g1 : Nat) (b1 o1 cap1 : Nat) (xs : List Bool) (ad2 : Option Addr) (cap2 : Nat) (ys : List Bool) (w : World) (hb0 : Blk w g0 #[.slice (some ⟨b1, o1, none⟩) 512 cap1] 22) (hb1 : Blk w g1 #[.slice ad2 ys.length cap2] 22) (_hr1 : Rg w (some ⟨b1, o1, none⟩) (bo xs)) (_hl1 : xs.length = 512) (_hl2 : ys.length ≠ 512)  : Calls Try.prog 33 #[.pointer (some ⟨g0, 0, none⟩), .pointer (some ⟨g1, 0, none⟩)] w (Pan w (.iface 25 (.int .i64 2))) := by
  refine calls_of_CW Try.func33 rfl (n := 27) Try.ntmps33 (by kernel_rfl) [0, 1] (F := [(0, .pointer (some ⟨g0, 0, none⟩)), (1, .pointer (some ⟨g1, 0, none⟩))]) (by kernel_rfl) ?_
  have hg1 := hb0.lt
  have hg2 := hb1.lt
  refine CW.seq fun K3 hK3 => ?_
  refine CW.region ?_
  refine WR.batch 1 [(0, .pointer (some ⟨g0, 0, none⟩)), (1, .pointer (some ⟨g1, 0, none⟩))] (by kernel_rfl) ?_
  refine WR.fin (by kernel_rfl) ?_
  refine go hK3 ?_
  refine CW.seq fun K4 hK4 => ?_
  refine CW.keep [0, 1] (F' := [(0, .pointer (some ⟨g0, 0, none⟩)), (1, .pointer (some ⟨g1, 0, none⟩))]) (by kernel_rfl) ?_
  refine CW.regionF 5 [] [] (by kernel_rfl) (fun w' => Chg [] w w') (fun i v w' => match i with | 0 => v = .slice (some ⟨b1, o1, none⟩) 512 cap1 | 1 => v = .pointer (some ⟨b1, o1, none⟩) | 2 => v = .slice ad2 ys.length cap2 | 3 => False | 4 => False | _ => True) (fun j x w hj h => match j, hj, h with | 0, hj, h => absurd hj (by decide) | 1, hj, h => absurd hj (by decide) | 2, hj, h => absurd hj (by decide) | 3, hj, h => absurd hj (by decide) | 4, hj, h => absurd hj (by decide) | j + 5, hj, _ => absurd hj (by simp)) (by kernel_rfl) (by kernel_rfl) (by kernel_rfl) (Chg.drew w) (fun _ _ h h' => h.pure h') ?_ ⟨?_, ?_, ?_, ?_, ?_, trivial⟩ ?_
  ·
    intro i v w1 w2 h hc
    match i, h with
    | 0, h => exact h
    | 1, h => exact h
    | 2, h => exact h
    | 3, h => exact h
    | 4, h => exact h
    | n + 5, h => trivial
  ·
    intro u7 w8 hW9 hp10
    have hz12 := hW9.size
    have hC11 := (Chg.refl [] w).pure hW9
    have hb13 := hb0.pure hW9
    have hb14 := hb1.pure hW9
    refine WR.eqF (F' := [(6, u7 0), (7, u7 1), (8, u7 2), (9, u7 3), (3, u7 4), (0, .pointer (some ⟨g0, 0, none⟩)), (1, .pointer (some ⟨g1, 0, none⟩))]) (by kernel_rfl) ?_
    refine WR.load (dst := some 6) (t := 22) (o := 0) hb13 (by kernel_rfl) (.slice (some ⟨b1, o1, none⟩) 512 cap1) (by kernel_rfl) ?_
    refine WR.fin (by kernel_rfl) ?_
    exact fun _ ha => ⟨Chg.refl _ _, _, ha.cast (by kernel_rfl), ⟨⟨fun h => absurd h (by decide), alNone (by decide)⟩, rfl⟩⟩
  ·
    intro u15 w16 hW17 hp18
    have hz20 := hW17.size
    have hC19 := (Chg.refl [] w).pure hW17
    have hb21 := hb0.pure hW17
    have hb22 := hb1.pure hW17
    have hp23 : u15 0 = .slice (some ⟨b1, o1, none⟩) 512 cap1 := hp18 0 (by kernel_rfl)
    refine WR.eqF (F' := [(6, u15 0), (7, u15 1), (8, u15 2), (9, u15 3), (3, u15 4), (0, .pointer (some ⟨g0, 0, none⟩)), (1, .pointer (some ⟨g1, 0, none⟩))]) (by kernel_rfl) ?_
    refine WR.eqF (F' := [(6, .slice (some ⟨b1, o1, none⟩) 512 cap1), (7, u15 1), (8, u15 2), (9, u15 3), (3, u15 4), (0, .pointer (some ⟨g0, 0, none⟩)), (1, .pointer (some ⟨g1, 0, none⟩))]) (by rw [hp23]) ?_
    refine WR.call (dst := some 7) (by kernel_rfl) (of_yes b1 o1 cap1 w16) ?_
    rintro _ w24 hc25 rfl
    have hz27 := hc25.size
    have hC26 := hC19.pure hc25
    have hb28 := hb21.pure hc25
    have hb29 := hb22.pure hc25
    refine WR.fin (by kernel_rfl) ?_
    exact fun _ ha => ⟨hc25, _, ha.cast (show upd [(6, .slice (some ⟨b1, o1, none⟩) 512 cap1), (7, u15 1), (8, u15 2), (9, u15 3), (3, u15 4), (0, .pointer (some ⟨g0, 0, none⟩)), (1, .pointer (some ⟨g1, 0, none⟩))] (some 7) _ = upd [(6, u15 0), (7, u15 1), (8, u15 2), (9, u15 3), (3, u15 4), (0, .pointer (some ⟨g0, 0, none⟩)), (1, .pointer (some ⟨g1, 0, none⟩))] (some 7) _ from by rw [hp23]), ⟨⟨fun h => absurd h (by decide), alNone (by decide)⟩, rfl⟩⟩
  ·
    intro u30 w31 hW32 hp33
    have hz35 := hW32.size
    have hC34 := (Chg.refl [] w).pure hW32
    have hb36 := hb0.pure hW32
    have hb37 := hb1.pure hW32
    refine WR.eqF (F' := [(6, u30 0), (7, u30 1), (8, u30 2), (9, u30 3), (3, u30 4), (0, .pointer (some ⟨g0, 0, none⟩)), (1, .pointer (some ⟨g1, 0, none⟩))]) (by kernel_rfl) ?_
    refine WR.load (dst := some 8) (t := 22) (o := 0) hb37 (by kernel_rfl) (.slice ad2 ys.length cap2) (by kernel_rfl) ?_
    refine WR.fin (by kernel_rfl) ?_
    exact fun _ ha => ⟨Chg.refl _ _, _, ha.cast (by kernel_rfl), ⟨⟨fun h => absurd h (by decide), alNone (by decide)⟩, rfl⟩⟩
  ·
    intro u38 w39 hW40 hp41
    have hz43 := hW40.size
    have hC42 := (Chg.refl [] w).pure hW40
    have hb44 := hb0.pure hW40
    have hb45 := hb1.pure hW40
    have hp46 : u38 1 = .pointer (some ⟨b1, o1, none⟩) := hp41 1 (by kernel_rfl)
    have hp47 : u38 2 = .slice ad2 ys.length cap2 := hp41 2 (by kernel_rfl)
    refine WR.eqF (F' := [(6, u38 0), (7, u38 1), (8, u38 2), (9, u38 3), (3, u38 4), (0, .pointer (some ⟨g0, 0, none⟩)), (1, .pointer (some ⟨g1, 0, none⟩))]) (by kernel_rfl) ?_
    refine WR.eqF (F' := [(6, u38 0), (7, .pointer (some ⟨b1, o1, none⟩)), (8, .slice ad2 ys.length cap2), (9, u38 3), (3, u38 4), (0, .pointer (some ⟨g0, 0, none⟩)), (1, .pointer (some ⟨g1, 0, none⟩))]) (by rw [hp46, hp47]) ?_
    refine WR.callX (dst := some 9) (by kernel_rfl) (of_no ad2 ys.length cap2 w39 (by omega)) ?_
    intro w48 hc49
    have hz51 := hc49.size
    have hC50 := hC42.pure hc49
    have hb52 := hb44.pure hc49
    have hb53 := hb45.pure hc49
    exact panicV (P := Try.prog) (fn := Try.f33) ⟨rfl, hC50⟩
  ·
    intro u54 w55 hW56 hp57
    exact (hp57 3 (by kernel_rfl)).elim
  ·
    intro u58 w59 hW60 hr61 hD62 hal63
    exact (hr61 3 (by omega)).elim

theorem Join1_ok (g0 g1 : Nat) (b1 o1 cap1 : Nat) (xs : List Bool) (b2 o2 cap2 : Nat) (ys : List Bool) (w : World) (hb0 : Blk w g0 #[.slice (some ⟨b1, o1, none⟩) 512 cap1] 22) (hb1 : Blk w g1 #[.slice (some ⟨b2, o2, none⟩) 512 cap2] 22) (hr1 : Rg w (some ⟨b1, o1, none⟩) (bo xs)) (hl1 : xs.length = 512) (hr2 : Rg w (some ⟨b2, o2, none⟩) (bo ys)) (hl2 : ys.length = 512)  : Calls Try.prog 30 #[.pointer (some ⟨g0, 0, none⟩), .pointer (some ⟨g1, 0, none⟩)] w (Ret [] w fun v w' => OwnB w.heap.size (joinL xs ys) v w') := by
  refine calls_of_CW Try.func30 rfl (n := 29) Try.ntmps30 (by kernel_rfl) [0, 1] (F := [(0, .pointer (some ⟨g0, 0, none⟩)), (1, .pointer (some ⟨g1, 0, none⟩))]) (by kernel_rfl) ?_
  have hg1 := hb0.lt
  have hg2 := hb1.lt
  refine CW.seq fun K3 hK3 => ?_
  refine CW.region ?_
  refine WR.batch 1 [(0, .pointer (some ⟨g0, 0, none⟩)), (1, .pointer (some ⟨g1, 0, none⟩))] (by kernel_rfl) ?_
  refine WR.fin (by kernel_rfl) ?_
  refine go hK3 ?_
  refine CW.seq fun K4 hK4 => ?_
  refine CW.keep [0, 1] (F' := [(0, .pointer (some ⟨g0, 0, none⟩)), (1, .pointer (some ⟨g1, 0, none⟩))]) (by kernel_rfl) ?_
  refine CW.regionF 7 [6] [] (by kernel_rfl) (fun w' => Chg [] w w') (fun i v w' => match i with | 0 => v = .slice (some ⟨b1, o1, none⟩) 512 cap1 | 1 => v = .pointer (some ⟨b1, o1, none⟩) | 2 => v = .pointer (some ⟨b1, o1, none⟩) | 3 => v = .agg (bo (xs)).toArray | 4 => v = .slice (some ⟨b2, o2, none⟩) 512 cap2 | 5 => v = .pointer (some ⟨b2, o2, none⟩) | 6 => ∃ g, v = .pointer (some ⟨g, 0, none⟩) ∧ Blk w' g (Array.replicate 512 (.bool false)) 47 ∧ w.heap.size ≤ g | _ => True) (fun j x w hj h => match j, hj, h with | 0, hj, h => absurd hj (by decide) | 1, hj, h => absurd hj (by decide) | 2, hj, h => absurd hj (by decide) | 3, hj, h => absurd hj (by decide) | 4, hj, h => absurd hj (by decide) | 5, hj, h => absurd hj (by decide) | 6, hj, h => newLt h | j + 7, hj, _ => absurd hj (by simp)) (by kernel_rfl) (by kernel_rfl) (by kernel_rfl) (Chg.drew w) (fun _ _ h h' => h.pure h') ?_ ⟨?_, ?_, ?_, ?_, ?_, ?_, ?_, trivial⟩ ?_
  ·
    intro i v w1 w2 h hc
    match i, h with
    | 0, h => exact h
    | 1, h => exact h
    | 2, h => exact h
    | 3, h => exact h
    | 4, h => exact h
    | 5, h => exact h
    | 6, h => exact h.elim fun g h => ⟨g, h.1, h.2.1.pure hc, h.2.2⟩
    | n + 7, h => trivial
  ·
    intro u7 w8 hW9 hp10
    have hz12 := hW9.size
    have hC11 := (Chg.refl [] w).pure hW9
    have hb13 := hb0.pure hW9
    have hb14 := hb1.pure hW9
    refine WR.eqF (F' := [(6, u7 0), (7, u7 1), (8, u7 2), (9, u7 3), (10, u7 4), (11, u7 5), (3, u7 6), (0, .pointer (some ⟨g0, 0, none⟩)), (1, .pointer (some ⟨g1, 0, none⟩))]) (by kernel_rfl) ?_
    refine WR.load (dst := some 6) (t := 22) (o := 0) hb13 (by kernel_rfl) (.slice (some ⟨b1, o1, none⟩) 512 cap1) (by kernel_rfl) ?_
    refine WR.fin (by kernel_rfl) ?_
    exact fun _ ha => ⟨Chg.refl _ _, _, ha.cast (by kernel_rfl), ⟨⟨fun h => absurd h (by decide), alNone (by decide)⟩, rfl⟩⟩
  ·
    intro u15 w16 hW17 hp18
    have hz20 := hW17.size
    have hC19 := (Chg.refl [] w).pure hW17
    have hb21 := hb0.pure hW17
    have hb22 := hb1.pure hW17
    have hp23 : u15 0 = .slice (some ⟨b1, o1, none⟩) 512 cap1 := hp18 0 (by kernel_rfl)
    refine WR.eqF (F' := [(6, u15 0), (7, u15 1), (8, u15 2), (9, u15 3), (10, u15 4), (11, u15 5), (3, u15 6), (0, .pointer (some ⟨g0, 0, none⟩)), (1, .pointer (some ⟨g1, 0, none⟩))]) (by kernel_rfl) ?_
    refine WR.eqF (F' := [(6, .slice (some ⟨b1, o1, none⟩) 512 cap1), (7, u15 1), (8, u15 2), (9, u15 3), (10, u15 4), (11, u15 5), (3, u15 6), (0, .pointer (some ⟨g0, 0, none⟩)), (1, .pointer (some ⟨g1, 0, none⟩))]) (by rw [hp23]) ?_
    refine WR.call (dst := some 7) (by kernel_rfl) (of_yes b1 o1 cap1 w16) ?_
    rintro _ w24 hc25 rfl
    have hz27 := hc25.size
    have hC26 := hC19.pure hc25
    have hb28 := hb21.pure hc25
    have hb29 := hb22.pure hc25
    refine WR.fin (by kernel_rfl) ?_
    exact fun _ ha => ⟨hc25, _, ha.cast (show upd [(6, .slice (some ⟨b1, o1, none⟩) 512 cap1), (7, u15 1), (8, u15 2), (9, u15 3), (10, u15 4), (11, u15 5), (3, u15 6), (0, .pointer (some ⟨g0, 0, none⟩)), (1, .pointer (some ⟨g1, 0, none⟩))] (some 7) _ = upd [(6, u15 0), (7, u15 1), (8, u15 2), (9, u15 3), (10, u15 4), (11, u15 5), (3, u15 6), (0, .pointer (some ⟨g0, 0, none⟩)), (1, .pointer (some ⟨g1, 0, none⟩))] (some 7) _ from by rw [hp23]), ⟨⟨fun h => absurd h (by decide), alNone (by decide)⟩, rfl⟩⟩
  ·
    intro u30 w31 hW32 hp33
    have hz35 := hW32.size
    have hC34 := (Chg.refl [] w).pure hW32
    have hb36 := hb0.pure hW32
    have hb37 := hb1.pure hW32
    have hp38 : u30 1 = .pointer (some ⟨b1, o1, none⟩) := hp33 1 (by kernel_rfl)
    refine WR.eqF (F' := [(6, u30 0), (7, u30 1), (8, u30 2), (9, u30 3), (10, u30 4), (11, u30 5), (3, u30 6), (0, .pointer (some ⟨g0, 0, none⟩)), (1, .pointer (some ⟨g1, 0, none⟩))]) (by kernel_rfl) ?_
    refine WR.eqF (F' := [(6, u30 0), (7, .pointer (some ⟨b1, o1, none⟩)), (8, u30 2), (9, u30 3), (10, u30 4), (11, u30 5), (3, u30 6), (0, .pointer (some ⟨g0, 0, none⟩)), (1, .pointer (some ⟨g1, 0, none⟩))]) (by rw [hp38]) ?_
    refine WR.valR (dst := some 8) (v := .pointer (some ⟨b1, o1, none⟩)) (w' := w31) (by kernel_rfl) ?_
    refine WR.fin (by kernel_rfl) ?_
    exact fun _ ha => ⟨Chg.refl _ _, _, ha.cast (show upd [(6, u30 0), (7, .pointer (some ⟨b1, o1, none⟩)), (8, u30 2), (9, u30 3), (10, u30 4), (11, u30 5), (3, u30 6), (0, .pointer (some ⟨g0, 0, none⟩)), (1, .pointer (some ⟨g1, 0, none⟩))] (some 8) _ = upd [(6, u30 0), (7, u30 1), (8, u30 2), (9, u30 3), (10, u30 4), (11, u30 5), (3, u30 6), (0, .pointer (some ⟨g0, 0, none⟩)), (1, .pointer (some ⟨g1, 0, none⟩))] (some 8) _ from by rw [hp38]), ⟨⟨fun h => absurd h (by decide), alNone (by decide)⟩, rfl⟩⟩
  ·
    intro u39 w40 hW41 hp42
    have hz44 := hW41.size
    have hC43 := (Chg.refl [] w).pure hW41
    have hb45 := hb0.pure hW41
    have hb46 := hb1.pure hW41
    have hp47 : u39 2 = .pointer (some ⟨b1, o1, none⟩) := hp42 2 (by kernel_rfl)
    refine WR.eqF (F' := [(6, u39 0), (7, u39 1), (8, u39 2), (9, u39 3), (10, u39 4), (11, u39 5), (3, u39 6), (0, .pointer (some ⟨g0, 0, none⟩)), (1, .pointer (some ⟨g1, 0, none⟩))]) (by kernel_rfl) ?_
    refine WR.eqF (F' := [(6, u39 0), (7, u39 1), (8, .pointer (some ⟨b1, o1, none⟩)), (9, u39 3), (10, u39 4), (11, u39 5), (3, u39 6), (0, .pointer (some ⟨g0, 0, none⟩)), (1, .pointer (some ⟨g1, 0, none⟩))]) (by rw [hp47]) ?_
    refine WR.loadA (dst := some 9) (t := 47) (ad := (some ⟨b1, o1, none⟩)) (j := 0) (sz := 512) (hr1.pure hC43) (by kernel_rfl) (by kernel_rfl) (by kernel_rfl) (by kernel_rfl) (bo (xs)) (by simp; omega) (by rw [List.drop_zero]; exact boTake (by omega)) ?_
    refine WR.fin (by kernel_rfl) ?_
    exact fun _ ha => ⟨Chg.refl _ _, _, ha.cast (show upd [(6, u39 0), (7, u39 1), (8, .pointer (some ⟨b1, o1, none⟩)), (9, u39 3), (10, u39 4), (11, u39 5), (3, u39 6), (0, .pointer (some ⟨g0, 0, none⟩)), (1, .pointer (some ⟨g1, 0, none⟩))] (some 9) _ = upd [(6, u39 0), (7, u39 1), (8, u39 2), (9, u39 3), (10, u39 4), (11, u39 5), (3, u39 6), (0, .pointer (some ⟨g0, 0, none⟩)), (1, .pointer (some ⟨g1, 0, none⟩))] (some 9) _ from by rw [hp47]), ⟨⟨fun h => absurd h (by decide), alNone (by decide)⟩, rfl⟩⟩
  ·
    intro u48 w49 hW50 hp51
    have hz53 := hW50.size
    have hC52 := (Chg.refl [] w).pure hW50
    have hb54 := hb0.pure hW50
    have hb55 := hb1.pure hW50
    refine WR.eqF (F' := [(6, u48 0), (7, u48 1), (8, u48 2), (9, u48 3), (10, u48 4), (11, u48 5), (3, u48 6), (0, .pointer (some ⟨g0, 0, none⟩)), (1, .pointer (some ⟨g1, 0, none⟩))]) (by kernel_rfl) ?_
    refine WR.load (dst := some 10) (t := 22) (o := 0) hb55 (by kernel_rfl) (.slice (some ⟨b2, o2, none⟩) 512 cap2) (by kernel_rfl) ?_
    refine WR.fin (by kernel_rfl) ?_
    exact fun _ ha => ⟨Chg.refl _ _, _, ha.cast (by kernel_rfl), ⟨⟨fun h => absurd h (by decide), alNone (by decide)⟩, rfl⟩⟩
  ·
    intro u56 w57 hW58 hp59
    have hz61 := hW58.size
    have hC60 := (Chg.refl [] w).pure hW58
    have hb62 := hb0.pure hW58
    have hb63 := hb1.pure hW58
    have hp64 : u56 1 = .pointer (some ⟨b1, o1, none⟩) := hp59 1 (by kernel_rfl)
    have hp65 : u56 4 = .slice (some ⟨b2, o2, none⟩) 512 cap2 := hp59 4 (by kernel_rfl)
    refine WR.eqF (F' := [(6, u56 0), (7, u56 1), (8, u56 2), (9, u56 3), (10, u56 4), (11, u56 5), (3, u56 6), (0, .pointer (some ⟨g0, 0, none⟩)), (1, .pointer (some ⟨g1, 0, none⟩))]) (by kernel_rfl) ?_
    refine WR.eqF (F' := [(6, u56 0), (7, .pointer (some ⟨b1, o1, none⟩)), (8, u56 2), (9, u56 3), (10, .slice (some ⟨b2, o2, none⟩) 512 cap2), (11, u56 5), (3, u56 6), (0, .pointer (some ⟨g0, 0, none⟩)), (1, .pointer (some ⟨g1, 0, none⟩))]) (by rw [hp64, hp65]) ?_
    refine WR.call (dst := some 11) (by kernel_rfl) (of_yes b2 o2 cap2 w57) ?_
    rintro _ w66 hc67 rfl
    have hz69 := hc67.size
    have hC68 := hC60.pure hc67
    have hb70 := hb62.pure hc67
    have hb71 := hb63.pure hc67
    refine WR.fin (by kernel_rfl) ?_
    exact fun _ ha => ⟨hc67, _, ha.cast (show upd [(6, u56 0), (7, .pointer (some ⟨b1, o1, none⟩)), (8, u56 2), (9, u56 3), (10, .slice (some ⟨b2, o2, none⟩) 512 cap2), (11, u56 5), (3, u56 6), (0, .pointer (some ⟨g0, 0, none⟩)), (1, .pointer (some ⟨g1, 0, none⟩))] (some 11) _ = upd [(6, u56 0), (7, u56 1), (8, u56 2), (9, u56 3), (10, u56 4), (11, u56 5), (3, u56 6), (0, .pointer (some ⟨g0, 0, none⟩)), (1, .pointer (some ⟨g1, 0, none⟩))] (some 11) _ from by rw [hp64, hp65]), ⟨⟨fun h => absurd h (by decide), alNone (by decide)⟩, rfl⟩⟩
  ·
    intro u72 w73 hW74 hp75
    have hz77 := hW74.size
    have hC76 := (Chg.refl [] w).pure hW74
    have hb78 := hb0.pure hW74
    have hb79 := hb1.pure hW74
    refine WR.eqF (F' := [(6, u72 0), (7, u72 1), (8, u72 2), (9, u72 3), (10, u72 4), (11, u72 5), (3, u72 6), (0, .pointer (some ⟨g0, 0, none⟩)), (1, .pointer (some ⟨g1, 0, none⟩))]) (by kernel_rfl) ?_
    refine WR.alloc (dst := some 3) (e := 47) (by kernel_rfl) (Array.replicate 512 (.bool false)) (by kernel_rfl) ?_
    intro g80 w81 hN82
    have hl85 : g0 < g80 := Nat.lt_of_lt_of_le hb78.lt hN82.fresh
    have hl86 : g1 < g80 := Nat.lt_of_lt_of_le hb79.lt hN82.fresh
    have hf84 : w.heap.size ≤ g80 := Nat.le_trans hC76.size hN82.fresh
    have hfr88 := hN82.fresh
    have hc87 := hN82.chg
    have hz90 := hc87.size
    have hC89 := hC76.pure hc87
    have hb91 := hb78.pure hc87
    have hb92 := hb79.pure hc87
    have hb83 := hN82.blk
    have hg93 := hb83.lt
    refine WR.fin (by kernel_rfl) ?_
    exact fun _ ha => ⟨hc87, _, ha.cast (by kernel_rfl), ⟨⟨fun _ => .inr (by simp only [adOf, bk]; omega), alNone (by decide)⟩, ⟨g80, rfl, hb83, by omega⟩⟩⟩
  ·
    intro u94 w95 hW96 hr97 hD98 hal99
    have hz101 := hW96.size
    have hC100 := (Chg.refl [] w).pure hW96
    have hb102 := hb0.pure hW96
    have hb103 := hb1.pure hW96
    have hp104 : u94 0 = .slice (some ⟨b1, o1, none⟩) 512 cap1 := hr97 0 (by omega)
    have hp105 : u94 1 = .pointer (some ⟨b1, o1, none⟩) := hr97 1 (by omega)
    have hp106 : u94 2 = .pointer (some ⟨b1, o1, none⟩) := hr97 2 (by omega)
    have hp107 : u94 3 = .agg (bo (xs)).toArray := hr97 3 (by omega)
    have hp108 : u94 4 = .slice (some ⟨b2, o2, none⟩) 512 cap2 := hr97 4 (by omega)
    have hp109 : u94 5 = .pointer (some ⟨b2, o2, none⟩) := hr97 5 (by omega)
    obtain ⟨g111, hp110, hb112, hf113⟩ : ∃ g, u94 6 = .pointer (some ⟨g, 0, none⟩) ∧ Blk w95 g (Array.replicate 512 (.bool false)) 47 ∧ w.heap.size ≤ g := hr97 6 (by omega)
    have hg114 := hb112.lt
    have hf115 : w.heap.size ≤ g111 := hf113
    refine WR.keep [3, 9, 11] (F' := [(3, u94 6), (9, u94 3), (11, u94 5)]) (by kernel_rfl) ?_
    refine WR.eqF (F' := [(3, .pointer (some ⟨g111, 0, none⟩)), (9, .agg (bo (xs)).toArray), (11, .pointer (some ⟨b2, o2, none⟩))]) (by rw [hp107, hp109, hp110]) ?_
    refine WR.storeW (t := 47) (vs := bo (xs)) hb112 (by kernel_rfl) (by kernel_rfl) (by simp; omega) (boOne _) ?_
    intro w116 hb117 hc118
    have hz120 := hc118.size
    have hC119 := hC100.step hc118 (by intro t ht; simp only [List.mem_cons, List.not_mem_nil, or_false] at ht; subst ht; first | exact .inr (by omega) | exact .inl (by simp))
    have hb121 := hb102.chg hc118 (by simp only [List.mem_cons, List.not_mem_nil, or_false]; omega)
    have hb122 := hb103.chg hc118 (by simp only [List.mem_cons, List.not_mem_nil, or_false]; omega)
    refine WR.batch 1 [(3, .pointer (some ⟨g111, 0, none⟩)), (4, .pointer (some ⟨b2, o2, none⟩))] (by kernel_rfl) ?_
    refine WR.fin (by kernel_rfl) ?_
    refine go hK4 ?_
    refine CW.seq fun K123 hK123 => ?_
    refine CW.seq fun K124 hK124 => ?_
    refine CW.region ?_
    refine WR.batch 1 [(3, .pointer (some ⟨g111, 0, none⟩)), (4, .pointer (some ⟨b2, o2, none⟩)), (12, .int .i64 (0 : Int))] (by kernel_rfl) ?_
    refine WR.fin (by kernel_rfl) ?_
    refine go hK124 ?_
    refine CW.block ?_
    refine CW.loop (σ := Nat) (fun k w125 => Chg [] w w125 ∧ (k ≤ 512) ∧ (Blk w125 g111 (bo (joinS xs ys k)).toArray 47)) (fun k => [(3, .pointer (some ⟨g111, 0, none⟩)), (4, .pointer (some ⟨b2, o2, none⟩)), (12, .int .i64 ((k : Nat) : Int))]) (fun k => 512 - k) (0) ⟨hC119, (by omega), by rw [joinS_zero]; exact hb117⟩ [3, 4, 12] (by kernel_rfl) ?_
    rintro k w125 ⟨hC126, hk, hb⟩
    refine CW.seq fun K127 hK127 => ?_
    refine CW.region ?_
    refine WR.batch 1 [(3, .pointer (some ⟨g111, 0, none⟩)), (4, .pointer (some ⟨b2, o2, none⟩)), (12, .int .i64 ((k : Nat) : Int)), (13, .bool (decide (((k : Nat) : Int) < (512 : Int))))] (by kernel_rfl) ?_
    refine WR.fin (by kernel_rfl) ?_
    refine go hK127 ?_
    refine CW.seq fun K128 hK128 => ?_
    refine CW.cond (decide (((k : Nat) : Int) < (512 : Int))) (by kernel_rfl) (fun ht129 => ?_) (fun ht129 => ?_)
    ·
      replace ht129 : ((k : Nat) : Int) < (512 : Int) := (of_decide_eq_true ht129)
      refine CW.skip ?_
      refine go hK128 ?_
      refine CW.seq fun K130 hK130 => ?_
      refine CW.block ?_
      refine CW.seq fun K131 hK131 => ?_
      refine CW.region ?_
      refine WR.batch 2 [(3, .pointer (some ⟨g111, 0, none⟩)), (4, .pointer (some ⟨b2, o2, none⟩)), (5, .int .i64 ((k : Nat) : Int)), (12, .int .i64 ((k : Nat) : Int))] (by kernel_rfl) ?_
      refine WR.fin (by kernel_rfl) ?_
      refine go hK131 ?_
      refine CW.region ?_
      refine WR.batch 2 [(3, .pointer (some ⟨g111, 0, none⟩)), (4, .pointer (some ⟨b2, o2, none⟩)), (5, .int .i64 ((k : Nat) : Int)), (12, .int .i64 ((k : Nat) : Int)), (15, .int .i64 ((k : Nat) : Int)), (16, .int .i64 ((k : Nat) : Int))] (by kernel_rfl) ?_
      refine WR.indexA (dst := some 17) (t := 47) (e := 4) (b := g111) (o := 0) (len := 512) (kk := .i64) (i := ((k : Nat) : Int)) (sz := 1) (by kernel_rfl) (by kernel_rfl) (by kernel_rfl) (k) (by omega) (by omega) (k) (by omega) ?_
      refine WR.load1 (dst := some 18) (t := 4) (a := ⟨g111, k, none⟩) (by kernel_rfl) (by kernel_rfl) (.bool ((joinS xs ys k).getD k false)) (Eq.trans (congrArg _ (by simp [bk, of])) ((hb.rg (bo (joinS xs ys k)) rfl) k _ (getMap _ (joinS xs ys k) (k) false (by rw [joinS_len hl1 hk]; omega))).2) ?_
      refine WR.batch 1 [(3, .pointer (some ⟨g111, 0, none⟩)), (4, .pointer (some ⟨b2, o2, none⟩)), (5, .int .i64 ((k : Nat) : Int)), (12, .int .i64 ((k : Nat) : Int)), (15, .int .i64 ((k : Nat) : Int)), (19, .bool ((joinS xs ys k).getD k false))] (by kernel_rfl) ?_
      refine WR.merge 11 [(3, .pointer (some ⟨g111, 0, none⟩)), (4, .pointer (some ⟨b2, o2, none⟩)), (12, .int .i64 ((k : Nat) : Int)), (15, .int .i64 ((k : Nat) : Int)), (25, .bool (((joinS xs ys k).getD k false) && (ys.getD k false)))] (fun Q' => ?_) ?_
      ·
        cases hg132 : (joinS xs ys k).getD k false
        ·
          intro hM133
          refine WR.batch 6 [(3, .pointer (some ⟨g111, 0, none⟩)), (4, .pointer (some ⟨b2, o2, none⟩)), (12, .int .i64 ((k : Nat) : Int)), (15, .int .i64 ((k : Nat) : Int)), (25, .bool false)] (by kernel_rfl) ?_
          exact WR.keep [3, 4, 12, 15, 25] (by kernel_rfl) hM133
        ·
          intro hM133
          refine WR.batch 3 [(3, .pointer (some ⟨g111, 0, none⟩)), (4, .pointer (some ⟨b2, o2, none⟩)), (12, .int .i64 ((k : Nat) : Int)), (15, .int .i64 ((k : Nat) : Int)), (19, .bool true), (21, .int .i64 ((k : Nat) : Int)), (22, .pointer (some ⟨b2, o2, none⟩))] (by kernel_rfl) ?_
          refine WR.indexA (dst := some 23) (t := 47) (e := 4) (b := b2) (o := o2) (len := 512) (kk := .i64) (i := ((k : Nat) : Int)) (sz := 1) (by kernel_rfl) (by kernel_rfl) (by kernel_rfl) (k) (by omega) (by omega) (o2 + k) (by omega) ?_
          refine WR.load1 (dst := some 24) (t := 4) (a := ⟨b2, o2 + k, none⟩) (by kernel_rfl) (by kernel_rfl) (.bool (ys.getD k false)) ((hr2.pure hC126) k _ (getMap _ ys (k) false (by omega))).2 ?_
          refine WR.batch 1 [(3, .pointer (some ⟨g111, 0, none⟩)), (4, .pointer (some ⟨b2, o2, none⟩)), (12, .int .i64 ((k : Nat) : Int)), (15, .int .i64 ((k : Nat) : Int)), (25, .bool (ys.getD k false))] (by kernel_rfl) ?_
          exact WR.keep [3, 4, 12, 15, 25] (by kernel_rfl) hM133
      ·
        refine WR.indexA (dst := some 26) (t := 47) (e := 4) (b := g111) (o := 0) (len := 512) (kk := .i64) (i := ((k : Nat) : Int)) (sz := 1) (by kernel_rfl) (by kernel_rfl) (by kernel_rfl) (k) (by omega) (by omega) (k) (by omega) ?_
        refine WR.storeB (t := 4) (o := k) (v := .bool (((joinS xs ys k).getD k false) && (ys.getD k false))) hb (by kernel_rfl) (by kernel_rfl) rfl rfl (by simp only [List.size_toArray, List.length_map]; rw [joinS_len (by omega) (by omega)]; omega) ?_
        intro w134 hb135 hc136
        have hz139 := hc136.size
        have hC138 := hC126.step hc136 (by intro t ht; simp only [List.mem_cons, List.not_mem_nil, or_false] at ht; subst ht; first | exact .inr (by omega) | exact .inl (by simp))
        have hb137 : Blk w134 g111 (bo ((joinS xs ys k).set k (((joinS xs ys k).getD k false) && (ys.getD k false)))).toArray 47 := by rw [boArrSet]; exact hb135
        refine WR.fin (by kernel_rfl) ?_
        refine go hK130 ?_
        refine CW.region ?_
        refine WR.batch 1 [(3, .pointer (some ⟨g111, 0, none⟩)), (4, .pointer (some ⟨b2, o2, none⟩)), (27, .int .i64 (IntKind.i64.wrap (((k : Nat) : Int) + (1 : Int))))] (by kernel_rfl) ?_
        have hw140 : IntKind.i64.wrap (((k : Nat) : Int) + (1 : Int)) = (((k : Nat) : Int) + (1 : Int)) := IntWalk.i64_in _ (by omega)
        refine WR.eqF (F' := [(3, .pointer (some ⟨g111, 0, none⟩)), (4, .pointer (some ⟨b2, o2, none⟩)), (27, .int .i64 (((k : Nat) : Int) + (1 : Int)))]) (by rw [hw140]) ?_
        refine WR.batch 1 [(3, .pointer (some ⟨g111, 0, none⟩)), (4, .pointer (some ⟨b2, o2, none⟩)), (12, .int .i64 (((k : Nat) : Int) + (1 : Int)))] (by kernel_rfl) ?_
        refine WR.fin (by kernel_rfl) ?_
        exact fun _ ha => ⟨k + 1, ⟨hC138, (by omega), by rw [joinS_step (by omega) (by omega)] at hb137; exact hb137⟩, (by dsimp only; omega), ha.keep [3, 4, 12] (by kernel_rfl)⟩
    ·
      replace ht129 : ¬ (((k : Nat) : Int) < (512 : Int)) := (of_decide_eq_false ht129)
      refine CW.exit ?_
      refine go hK123 ?_
      refine CW.seq fun K141 hK141 => ?_
      refine CW.region ?_
      refine WR.batch 2 [(2, .slice (some ⟨g111, 0, none⟩) 512 512)] (by kernel_rfl) ?_
      refine WR.fin (by kernel_rfl) ?_
      refine go hK141 ?_
      refine CW.ret ?_
      exact retV (.slice (some ⟨g111, 0, none⟩) 512 512) (by kernel_rfl) ⟨hC126, by have e : joinL xs ys = joinS xs ys k := (by rw [joinL_ok ⟨hl1, hl2⟩, show k = 512 by omega, joinS_all hl1]); have e2 : (joinS xs ys k).length = 512 := (joinS_len hl1 hk); rw [e]; exact ⟨_, _, 47, by rw [e2], by rw [e2]; exact Own.ofBlk hb (by omega) (by omega) (by omega) (by simp [e2]) _ (boTake (by omega))⟩⟩

theorem Join1_00 (g0 g1 : Nat) (ad1 : Option Addr) (cap1 : Nat) (xs : List Bool) (ad2 : Option Addr) (cap2 : Nat) (ys : List Bool) (w : World) (hb0 : Blk w g0 #[.slice ad1 xs.length cap1] 22) (hb1 : Blk w g1 #[.slice ad2 ys.length cap2] 22) (_hl1 : xs.length ≠ 512) (_hl2 : ys.length ≠ 512)  : Calls Try.prog 30 #[.pointer (some ⟨g0, 0, none⟩), .pointer (some ⟨g1, 0, none⟩)] w (Pan w (.iface 25 (.int .i64 2))) := by
  refine calls_of_CW Try.func30 rfl (n := 29) Try.ntmps30 (by kernel_rfl) [0, 1] (F := [(0, .pointer (some ⟨g0, 0, none⟩)), (1, .pointer (some ⟨g1, 0, none⟩))]) (by kernel_rfl) ?_
  have hg1 := hb0.lt
  have hg2 := hb1.lt
  refine CW.seq fun K3 hK3 => ?_
  refine CW.region ?_
  refine WR.batch 1 [(0, .pointer (some ⟨g0, 0, none⟩)), (1, .pointer (some ⟨g1, 0, none⟩))] (by kernel_rfl) ?_
  refine WR.fin (by kernel_rfl) ?_
  refine go hK3 ?_
  refine CW.seq fun K4 hK4 => ?_
  refine CW.keep [0, 1] (F' := [(0, .pointer (some ⟨g0, 0, none⟩)), (1, .pointer (some ⟨g1, 0, none⟩))]) (by kernel_rfl) ?_
  refine CW.regionF 7 [6] [] (by kernel_rfl) (fun w' => Chg [] w w') (fun i v w' => match i with | 0 => v = .slice ad1 xs.length cap1 | 1 => False | 2 => False | 3 => False | 4 => v = .slice ad2 ys.length cap2 | 5 => False | 6 => ∃ g, v = .pointer (some ⟨g, 0, none⟩) ∧ Blk w' g (Array.replicate 512 (.bool false)) 47 ∧ w.heap.size ≤ g | _ => True) (fun j x w hj h => match j, hj, h with | 0, hj, h => absurd hj (by decide) | 1, hj, h => absurd hj (by decide) | 2, hj, h => absurd hj (by decide) | 3, hj, h => absurd hj (by decide) | 4, hj, h => absurd hj (by decide) | 5, hj, h => absurd hj (by decide) | 6, hj, h => newLt h | j + 7, hj, _ => absurd hj (by simp)) (by kernel_rfl) (by kernel_rfl) (by kernel_rfl) (Chg.drew w) (fun _ _ h h' => h.pure h') ?_ ⟨?_, ?_, ?_, ?_, ?_, ?_, ?_, trivial⟩ ?_
  ·
    intro i v w1 w2 h hc
    match i, h with
    | 0, h => exact h
    | 1, h => exact h
    | 2, h => exact h
    | 3, h => exact h
    | 4, h => exact h
    | 5, h => exact h
    | 6, h => exact h.elim fun g h => ⟨g, h.1, h.2.1.pure hc, h.2.2⟩
    | n + 7, h => trivial
  ·
    intro u7 w8 hW9 hp10
    have hz12 := hW9.size
    have hC11 := (Chg.refl [] w).pure hW9
    have hb13 := hb0.pure hW9
    have hb14 := hb1.pure hW9
    refine WR.eqF (F' := [(6, u7 0), (7, u7 1), (8, u7 2), (9, u7 3), (10, u7 4), (11, u7 5), (3, u7 6), (0, .pointer (some ⟨g0, 0, none⟩)), (1, .pointer (some ⟨g1, 0, none⟩))]) (by kernel_rfl) ?_
    refine WR.load (dst := some 6) (t := 22) (o := 0) hb13 (by kernel_rfl) (.slice ad1 xs.length cap1) (by kernel_rfl) ?_
    refine WR.fin (by kernel_rfl) ?_
    exact fun _ ha => ⟨Chg.refl _ _, _, ha.cast (by kernel_rfl), ⟨⟨fun h => absurd h (by decide), alNone (by decide)⟩, rfl⟩⟩
  ·
    intro u15 w16 hW17 hp18
    have hz20 := hW17.size
    have hC19 := (Chg.refl [] w).pure hW17
    have hb21 := hb0.pure hW17
    have hb22 := hb1.pure hW17
    have hp23 : u15 0 = .slice ad1 xs.length cap1 := hp18 0 (by kernel_rfl)
    refine WR.eqF (F' := [(6, u15 0), (7, u15 1), (8, u15 2), (9, u15 3), (10, u15 4), (11, u15 5), (3, u15 6), (0, .pointer (some ⟨g0, 0, none⟩)), (1, .pointer (some ⟨g1, 0, none⟩))]) (by kernel_rfl) ?_
    refine WR.eqF (F' := [(6, .slice ad1 xs.length cap1), (7, u15 1), (8, u15 2), (9, u15 3), (10, u15 4), (11, u15 5), (3, u15 6), (0, .pointer (some ⟨g0, 0, none⟩)), (1, .pointer (some ⟨g1, 0, none⟩))]) (by rw [hp23]) ?_
    refine WR.callX (dst := some 7) (by kernel_rfl) (of_no ad1 xs.length cap1 w16 (by omega)) ?_
    intro w24 hc25
    have hz27 := hc25.size
    have hC26 := hC19.pure hc25
    have hb28 := hb21.pure hc25
    have hb29 := hb22.pure hc25
    exact panicV (P := Try.prog) (fn := Try.f30) ⟨rfl, hC26⟩
  ·
    intro u30 w31 hW32 hp33
    exact (hp33 1 (by kernel_rfl)).elim
  ·
    intro u34 w35 hW36 hp37
    exact (hp37 2 (by kernel_rfl)).elim
  ·
    intro u38 w39 hW40 hp41
    have hz43 := hW40.size
    have hC42 := (Chg.refl [] w).pure hW40
    have hb44 := hb0.pure hW40
    have hb45 := hb1.pure hW40
    refine WR.eqF (F' := [(6, u38 0), (7, u38 1), (8, u38 2), (9, u38 3), (10, u38 4), (11, u38 5), (3, u38 6), (0, .pointer (some ⟨g0, 0, none⟩)), (1, .pointer (some ⟨g1, 0, none⟩))]) (by kernel_rfl) ?_
    refine WR.load (dst := some 10) (t := 22) (o := 0) hb45 (by kernel_rfl) (.slice ad2 ys.length cap2) (by kernel_rfl) ?_
    refine WR.fin (by kernel_rfl) ?_
    exact fun _ ha => ⟨Chg.refl _ _, _, ha.cast (by kernel_rfl), ⟨⟨fun h => absurd h (by decide), alNone (by decide)⟩, rfl⟩⟩
  ·
    intro u46 w47 hW48 hp49
    exact (hp49 1 (by kernel_rfl)).elim
  ·
    intro u50 w51 hW52 hp53
    have hz55 := hW52.size
    have hC54 := (Chg.refl [] w).pure hW52
    have hb56 := hb0.pure hW52
    have hb57 := hb1.pure hW52
    refine WR.eqF (F' := [(6, u50 0), (7, u50 1), (8, u50 2), (9, u50 3), (10, u50 4), (11, u50 5), (3, u50 6), (0, .pointer (some ⟨g0, 0, none⟩)), (1, .pointer (some ⟨g1, 0, none⟩))]) (by kernel_rfl) ?_
    refine WR.alloc (dst := some 3) (e := 47) (by kernel_rfl) (Array.replicate 512 (.bool false)) (by kernel_rfl) ?_
    intro g58 w59 hN60
    have hl63 : g0 < g58 := Nat.lt_of_lt_of_le hb56.lt hN60.fresh
    have hl64 : g1 < g58 := Nat.lt_of_lt_of_le hb57.lt hN60.fresh
    have hf62 : w.heap.size ≤ g58 := Nat.le_trans hC54.size hN60.fresh
    have hfr66 := hN60.fresh
    have hc65 := hN60.chg
    have hz68 := hc65.size
    have hC67 := hC54.pure hc65
    have hb69 := hb56.pure hc65
    have hb70 := hb57.pure hc65
    have hb61 := hN60.blk
    have hg71 := hb61.lt
    refine WR.fin (by kernel_rfl) ?_
    exact fun _ ha => ⟨hc65, _, ha.cast (by kernel_rfl), ⟨⟨fun _ => .inr (by simp only [adOf, bk]; omega), alNone (by decide)⟩, ⟨g58, rfl, hb61, by omega⟩⟩⟩
  ·
    intro u72 w73 hW74 hr75 hD76 hal77
    exact (hr75 1 (by omega)).elim

theorem Join1_01 (g0 g1 : Nat) (ad1 : Option Addr) (cap1 : Nat) (xs : List Bool) (b2 o2 cap2 : Nat) (ys : List Bool) (w : World) (hb0 : Blk w g0 #[.slice ad1 xs.length cap1] 22) (hb1 : Blk w g1 #[.slice (some ⟨b2, o2, none⟩) 512 cap2] 22) (_hl1 : xs.length ≠ 512) (_hr2 : Rg w (some ⟨b2, o2, none⟩) (bo ys)) (_hl2 : ys.length = 512)  : Calls Try.prog 30 #[.pointer (some ⟨g0, 0, none⟩), .pointer (some ⟨g1, 0, none⟩)] w (Pan w (.iface 25 (.int .i64 2))) := by
  refine calls_of_CW Try.func30 rfl (n := 29) Try.ntmps30 (by kernel_rfl) [0, 1] (F := [(0, .pointer (some ⟨g0, 0, none⟩)), (1, .pointer (some ⟨g1, 0, none⟩))]) (by kernel_rfl) ?_
  have hg1 := hb0.lt
  have hg2 := hb1.lt
  refine CW.seq fun K3 hK3 => ?_
  refine CW.region ?_
  refine WR.batch 1 [(0, .pointer (some ⟨g0, 0, none⟩)), (1, .pointer (some ⟨g1, 0, none⟩))] (by kernel_rfl) ?_
  refine WR.fin (by kernel_rfl) ?_
  refine go hK3 ?_
  refine CW.seq fun K4 hK4 => ?_
  refine CW.keep [0, 1] (F' := [(0, .pointer (some ⟨g0, 0, none⟩)), (1, .pointer (some ⟨g1, 0, none⟩))]) (by kernel_rfl) ?_
  refine CW.regionF 7 [6] [] (by kernel_rfl) (fun w' => Chg [] w w') (fun i v w' => match i with | 0 => v = .slice ad1 xs.length cap1 | 1 => False | 2 => False | 3 => False | 4 => v = .slice (some ⟨b2, o2, none⟩) 512 cap2 | 5 => False | 6 => ∃ g, v = .pointer (some ⟨g, 0, none⟩) ∧ Blk w' g (Array.replicate 512 (.bool false)) 47 ∧ w.heap.size ≤ g | _ => True) (fun j x w hj h => match j, hj, h with | 0, hj, h => absurd hj (by decide) | 1, hj, h => absurd hj (by decide) | 2, hj, h => absurd hj (by decide) | 3, hj, h => absurd hj (by decide) | 4, hj, h => absurd hj (by decide) | 5, hj, h => absurd hj (by decide) | 6, hj, h => newLt h | j + 7, hj, _ => absurd hj (by simp)) (by kernel_rfl) (by kernel_rfl) (by kernel_rfl) (Chg.drew w) (fun _ _ h h' => h.pure h') ?_ ⟨?_, ?_, ?_, ?_, ?_, ?_, ?_, trivial⟩ ?_
  ·
    intro i v w1 w2 h hc
    match i, h with
    | 0, h => exact h
    | 1, h => exact h
    | 2, h => exact h
    | 3, h => exact h
    | 4, h => exact h
    | 5, h => exact h
    | 6, h => exact h.elim fun g h => ⟨g, h.1, h.2.1.pure hc, h.2.2⟩
    | n + 7, h => trivial
  ·
    intro u7 w8 hW9 hp10
    have hz12 := hW9.size
    have hC11 := (Chg.refl [] w).pure hW9
    have hb13 := hb0.pure hW9
    have hb14 := hb1.pure hW9
    refine WR.eqF (F' := [(6, u7 0), (7, u7 1), (8, u7 2), (9, u7 3), (10, u7 4), (11, u7 5), (3, u7 6), (0, .pointer (some ⟨g0, 0, none⟩)), (1, .pointer (some ⟨g1, 0, none⟩))]) (by kernel_rfl) ?_
    refine WR.load (dst := some 6) (t := 22) (o := 0) hb13 (by kernel_rfl) (.slice ad1 xs.length cap1) (by kernel_rfl) ?_
    refine WR.fin (by kernel_rfl) ?_
    exact fun _ ha => ⟨Chg.refl _ _, _, ha.cast (by kernel_rfl), ⟨⟨fun h => absurd h (by decide), alNone (by decide)⟩, rfl⟩⟩
  ·
    intro u15 w16 hW17 hp18
    have hz20 := hW17.size
    have hC19 := (Chg.refl [] w).pure hW17
    have hb21 := hb0.pure hW17
    have hb22 := hb1.pure hW17
    have hp23 : u15 0 = .slice ad1 xs.length cap1 := hp18 0 (by kernel_rfl)
    refine WR.eqF (F' := [(6, u15 0), (7, u15 1), (8, u15 2), (9, u15 3), (10, u15 4), (11, u15 5), (3, u15 6), (0, .pointer (some ⟨g0, 0, none⟩)), (1, .pointer (some ⟨g1, 0, none⟩))]) (by kernel_rfl) ?_
    refine WR.eqF (F' := [(6, .slice ad1 xs.length cap1), (7, u15 1), (8, u15 2), (9, u15 3), (10, u15 4), (11, u15 5), (3, u15 6), (0, .pointer (some ⟨g0, 0, none⟩)), (1, .pointer (some ⟨g1, 0, none⟩))]) (by rw [hp23]) ?_
    refine WR.callX (dst := some 7) (by kernel_rfl) (of_no ad1 xs.length cap1 w16 (by omega)) ?_
    intro w24 hc25
    have hz27 := hc25.size
    have hC26 := hC19.pure hc25
    have hb28 := hb21.pure hc25
    have hb29 := hb22.pure hc25
    exact panicV (P := Try.prog) (fn := Try.f30) ⟨rfl, hC26⟩
  ·
    intro u30 w31 hW32 hp33
    exact (hp33 1 (by kernel_rfl)).elim
  ·
    intro u34 w35 hW36 hp37
    exact (hp37 2 (by kernel_rfl)).elim
  ·
    intro u38 w39 hW40 hp41
    have hz43 := hW40.size
    have hC42 := (Chg.refl [] w).pure hW40
    have hb44 := hb0.pure hW40
    have hb45 := hb1.pure hW40
    refine WR.eqF (F' := [(6, u38 0), (7, u38 1), (8, u38 2), (9, u38 3), (10, u38 4), (11, u38 5), (3, u38 6), (0, .pointer (some ⟨g0, 0, none⟩)), (1, .pointer (some ⟨g1, 0, none⟩))]) (by kernel_rfl) ?_
    refine WR.load (dst := some 10) (t := 22) (o := 0) hb45 (by kernel_rfl) (.slice (some ⟨b2, o2, none⟩) 512 cap2) (by kernel_rfl) ?_
    refine WR.fin (by kernel_rfl) ?_
    exact fun _ ha => ⟨Chg.refl _ _, _, ha.cast (by kernel_rfl), ⟨⟨fun h => absurd h (by decide), alNone (by decide)⟩, rfl⟩⟩
  ·
    intro u46 w47 hW48 hp49
    exact (hp49 1 (by kernel_rfl)).elim
  ·
    intro u50 w51 hW52 hp53
    have hz55 := hW52.size
    have hC54 := (Chg.refl [] w).pure hW52
    have hb56 := hb0.pure hW52
    have hb57 := hb1.pure hW52
    refine WR.eqF (F' := [(6, u50 0), (7, u50 1), (8, u50 2), (9, u50 3), (10, u50 4), (11, u50 5), (3, u50 6), (0, .pointer (some ⟨g0, 0, none⟩)), (1, .pointer (some ⟨g1, 0, none⟩))]) (by kernel_rfl) ?_
    refine WR.alloc (dst := some 3) (e := 47) (by kernel_rfl) (Array.replicate 512 (.bool false)) (by kernel_rfl) ?_
    intro g58 w59 hN60
    have hl63 : g0 < g58 := Nat.lt_of_lt_of_le hb56.lt hN60.fresh
    have hl64 : g1 < g58 := Nat.lt_of_lt_of_le hb57.lt hN60.fresh
    have hf62 : w.heap.size ≤ g58 := Nat.le_trans hC54.size hN60.fresh
    have hfr66 := hN60.fresh
    have hc65 := hN60.chg
    have hz68 := hc65.size
    have hC67 := hC54.pure hc65
    have hb69 := hb56.pure hc65
    have hb70 := hb57.pure hc65
    have hb61 := hN60.blk
    have hg71 := hb61.lt
    refine WR.fin (by kernel_rfl) ?_
    exact fun _ ha => ⟨hc65, _, ha.cast (by kernel_rfl), ⟨⟨fun _ => .inr (by simp only [adOf, bk]; omega), alNone (by decide)⟩, ⟨g58, rfl, hb61, by omega⟩⟩⟩
  ·
    intro u72 w73 hW74 hr75 hD76 hal77
    exact (hr75 1 (by omega)).elim

theorem Join1_10 (g0 g1 : Nat) (b1 o1 cap1 : Nat) (xs : List Bool) (ad2 : Option Addr) (cap2 : Nat) (ys : List Bool) (w : World) (hb0 : Blk w g0 #[.slice (some ⟨b1, o1, none⟩) 512 cap1] 22) (hb1 : Blk w g1 #[.slice ad2 ys.length cap2] 22) (hr1 : Rg w (some ⟨b1, o1, none⟩) (bo xs)) (_hl1 : xs.length = 512) (_hl2 : ys.length ≠ 512)  : Calls Try.prog 30 #[.pointer (some ⟨g0, 0, none⟩), .pointer (some ⟨g1, 0, none⟩)] w (Pan w (.iface 25 (.int .i64 2))) := by
  refine calls_of_CW Try.func30 rfl (n := 29) Try.ntmps30 (by kernel_rfl) [0, 1] (F := [(0, .pointer (some ⟨g0, 0, none⟩)), (1, .pointer (some ⟨g1, 0, none⟩))]) (by kernel_rfl) ?_
  have hg1 := hb0.lt
  have hg2 := hb1.lt
  refine CW.seq fun K3 hK3 => ?_
  refine CW.region ?_
  refine WR.batch 1 [(0, .pointer (some ⟨g0, 0, none⟩)), (1, .pointer (some ⟨g1, 0, none⟩))] (by kernel_rfl) ?_
  refine WR.fin (by kernel_rfl) ?_
  refine go hK3 ?_
  refine CW.seq fun K4 hK4 => ?_
  refine CW.keep [0, 1] (F' := [(0, .pointer (some ⟨g0, 0, none⟩)), (1, .pointer (some ⟨g1, 0, none⟩))]) (by kernel_rfl) ?_
  refine CW.regionF 7 [6] [] (by kernel_rfl) (fun w' => Chg [] w w') (fun i v w' => match i with | 0 => v = .slice (some ⟨b1, o1, none⟩) 512 cap1 | 1 => v = .pointer (some ⟨b1, o1, none⟩) | 2 => v = .pointer (some ⟨b1, o1, none⟩) | 3 => v = .agg (bo (xs)).toArray | 4 => v = .slice ad2 ys.length cap2 | 5 => False | 6 => ∃ g, v = .pointer (some ⟨g, 0, none⟩) ∧ Blk w' g (Array.replicate 512 (.bool false)) 47 ∧ w.heap.size ≤ g | _ => True) (fun j x w hj h => match j, hj, h with | 0, hj, h => absurd hj (by decide) | 1, hj, h => absurd hj (by decide) | 2, hj, h => absurd hj (by decide) | 3, hj, h => absurd hj (by decide) | 4, hj, h => absurd hj (by decide) | 5, hj, h => absurd hj (by decide) | 6, hj, h => newLt h | j + 7, hj, _ => absurd hj (by simp)) (by kernel_rfl) (by kernel_rfl) (by kernel_rfl) (Chg.drew w) (fun _ _ h h' => h.pure h') ?_ ⟨?_, ?_, ?_, ?_, ?_, ?_, ?_, trivial⟩ ?_
  ·
    intro i v w1 w2 h hc
    match i, h with
    | 0, h => exact h
    | 1, h => exact h
    | 2, h => exact h
    | 3, h => exact h
    | 4, h => exact h
    | 5, h => exact h
    | 6, h => exact h.elim fun g h => ⟨g, h.1, h.2.1.pure hc, h.2.2⟩
    | n + 7, h => trivial
  ·
    intro u7 w8 hW9 hp10
    have hz12 := hW9.size
    have hC11 := (Chg.refl [] w).pure hW9
    have hb13 := hb0.pure hW9
    have hb14 := hb1.pure hW9
    refine WR.eqF (F' := [(6, u7 0), (7, u7 1), (8, u7 2), (9, u7 3), (10, u7 4), (11, u7 5), (3, u7 6), (0, .pointer (some ⟨g0, 0, none⟩)), (1, .pointer (some ⟨g1, 0, none⟩))]) (by kernel_rfl) ?_
    refine WR.load (dst := some 6) (t := 22) (o := 0) hb13 (by kernel_rfl) (.slice (some ⟨b1, o1, none⟩) 512 cap1) (by kernel_rfl) ?_
    refine WR.fin (by kernel_rfl) ?_
    exact fun _ ha => ⟨Chg.refl _ _, _, ha.cast (by kernel_rfl), ⟨⟨fun h => absurd h (by decide), alNone (by decide)⟩, rfl⟩⟩
  ·
    intro u15 w16 hW17 hp18
    have hz20 := hW17.size
    have hC19 := (Chg.refl [] w).pure hW17
    have hb21 := hb0.pure hW17
    have hb22 := hb1.pure hW17
    have hp23 : u15 0 = .slice (some ⟨b1, o1, none⟩) 512 cap1 := hp18 0 (by kernel_rfl)
    refine WR.eqF (F' := [(6, u15 0), (7, u15 1), (8, u15 2), (9, u15 3), (10, u15 4), (11, u15 5), (3, u15 6), (0, .pointer (some ⟨g0, 0, none⟩)), (1, .pointer (some ⟨g1, 0, none⟩))]) (by kernel_rfl) ?_
    refine WR.eqF (F' := [(6, .slice (some ⟨b1, o1, none⟩) 512 cap1), (7, u15 1), (8, u15 2), (9, u15 3), (10, u15 4), (11, u15 5), (3, u15 6), (0, .pointer (some ⟨g0, 0, none⟩)), (1, .pointer (some ⟨g1, 0, none⟩))]) (by rw [hp23]) ?_
    refine WR.call (dst := some 7) (by kernel_rfl) (of_yes b1 o1 cap1 w16) ?_
    rintro _ w24 hc25 rfl
    have hz27 := hc25.size
    have hC26 := hC19.pure hc25
    have hb28 := hb21.pure hc25
    have hb29 := hb22.pure hc25
    refine WR.fin (by kernel_rfl) ?_
    exact fun _ ha => ⟨hc25, _, ha.cast (show upd [(6, .slice (some ⟨b1, o1, none⟩) 512 cap1), (7, u15 1), (8, u15 2), (9, u15 3), (10, u15 4), (11, u15 5), (3, u15 6), (0, .pointer (some ⟨g0, 0, none⟩)), (1, .pointer (some ⟨g1, 0, none⟩))] (some 7) _ = upd [(6, u15 0), (7, u15 1), (8, u15 2), (9, u15 3), (10, u15 4), (11, u15 5), (3, u15 6), (0, .pointer (some ⟨g0, 0, none⟩)), (1, .pointer (some ⟨g1, 0, none⟩))] (some 7) _ from by rw [hp23]), ⟨⟨fun h => absurd h (by decide), alNone (by decide)⟩, rfl⟩⟩
  ·
    intro u30 w31 hW32 hp33
    have hz35 := hW32.size
    have hC34 := (Chg.refl [] w).pure hW32
    have hb36 := hb0.pure hW32
    have hb37 := hb1.pure hW32
    have hp38 : u30 1 = .pointer (some ⟨b1, o1, none⟩) := hp33 1 (by kernel_rfl)
    refine WR.eqF (F' := [(6, u30 0), (7, u30 1), (8, u30 2), (9, u30 3), (10, u30 4), (11, u30 5), (3, u30 6), (0, .pointer (some ⟨g0, 0, none⟩)), (1, .pointer (some ⟨g1, 0, none⟩))]) (by kernel_rfl) ?_
    refine WR.eqF (F' := [(6, u30 0), (7, .pointer (some ⟨b1, o1, none⟩)), (8, u30 2), (9, u30 3), (10, u30 4), (11, u30 5), (3, u30 6), (0, .pointer (some ⟨g0, 0, none⟩)), (1, .pointer (some ⟨g1, 0, none⟩))]) (by rw [hp38]) ?_
    refine WR.valR (dst := some 8) (v := .pointer (some ⟨b1, o1, none⟩)) (w' := w31) (by kernel_rfl) ?_
    refine WR.fin (by kernel_rfl) ?_
    exact fun _ ha => ⟨Chg.refl _ _, _, ha.cast (show upd [(6, u30 0), (7, .pointer (some ⟨b1, o1, none⟩)), (8, u30 2), (9, u30 3), (10, u30 4), (11, u30 5), (3, u30 6), (0, .pointer (some ⟨g0, 0, none⟩)), (1, .pointer (some ⟨g1, 0, none⟩))] (some 8) _ = upd [(6, u30 0), (7, u30 1), (8, u30 2), (9, u30 3), (10, u30 4), (11, u30 5), (3, u30 6), (0, .pointer (some ⟨g0, 0, none⟩)), (1, .pointer (some ⟨g1, 0, none⟩))] (some 8) _ from by rw [hp38]), ⟨⟨fun h => absurd h (by decide), alNone (by decide)⟩, rfl⟩⟩
  ·
    intro u39 w40 hW41 hp42
    have hz44 := hW41.size
    have hC43 := (Chg.refl [] w).pure hW41
    have hb45 := hb0.pure hW41
    have hb46 := hb1.pure hW41
    have hp47 : u39 2 = .pointer (some ⟨b1, o1, none⟩) := hp42 2 (by kernel_rfl)
    refine WR.eqF (F' := [(6, u39 0), (7, u39 1), (8, u39 2), (9, u39 3), (10, u39 4), (11, u39 5), (3, u39 6), (0, .pointer (some ⟨g0, 0, none⟩)), (1, .pointer (some ⟨g1, 0, none⟩))]) (by kernel_rfl) ?_
    refine WR.eqF (F' := [(6, u39 0), (7, u39 1), (8, .pointer (some ⟨b1, o1, none⟩)), (9, u39 3), (10, u39 4), (11, u39 5), (3, u39 6), (0, .pointer (some ⟨g0, 0, none⟩)), (1, .pointer (some ⟨g1, 0, none⟩))]) (by rw [hp47]) ?_
    refine WR.loadA (dst := some 9) (t := 47) (ad := (some ⟨b1, o1, none⟩)) (j := 0) (sz := 512) (hr1.pure hC43) (by kernel_rfl) (by kernel_rfl) (by kernel_rfl) (by kernel_rfl) (bo (xs)) (by simp; omega) (by rw [List.drop_zero]; exact boTake (by omega)) ?_
    refine WR.fin (by kernel_rfl) ?_
    exact fun _ ha => ⟨Chg.refl _ _, _, ha.cast (show upd [(6, u39 0), (7, u39 1), (8, .pointer (some ⟨b1, o1, none⟩)), (9, u39 3), (10, u39 4), (11, u39 5), (3, u39 6), (0, .pointer (some ⟨g0, 0, none⟩)), (1, .pointer (some ⟨g1, 0, none⟩))] (some 9) _ = upd [(6, u39 0), (7, u39 1), (8, u39 2), (9, u39 3), (10, u39 4), (11, u39 5), (3, u39 6), (0, .pointer (some ⟨g0, 0, none⟩)), (1, .pointer (some ⟨g1, 0, none⟩))] (some 9) _ from by rw [hp47]), ⟨⟨fun h => absurd h (by decide), alNone (by decide)⟩, rfl⟩⟩
  ·
    intro u48 w49 hW50 hp51
    have hz53 := hW50.size
    have hC52 := (Chg.refl [] w).pure hW50
    have hb54 := hb0.pure hW50
    have hb55 := hb1.pure hW50
    refine WR.eqF (F' := [(6, u48 0), (7, u48 1), (8, u48 2), (9, u48 3), (10, u48 4), (11, u48 5), (3, u48 6), (0, .pointer (some ⟨g0, 0, none⟩)), (1, .pointer (some ⟨g1, 0, none⟩))]) (by kernel_rfl) ?_
    refine WR.load (dst := some 10) (t := 22) (o := 0) hb55 (by kernel_rfl) (.slice ad2 ys.length cap2) (by kernel_rfl) ?_
    refine WR.fin (by kernel_rfl) ?_
    exact fun _ ha => ⟨Chg.refl _ _, _, ha.cast (by kernel_rfl), ⟨⟨fun h => absurd h (by decide), alNone (by decide)⟩, rfl⟩⟩
  ·
    intro u56 w57 hW58 hp59
    have hz61 := hW58.size
    have hC60 := (Chg.refl [] w).pure hW58
    have hb62 := hb0.pure hW58
    have hb63 := hb1.pure hW58
    have hp64 : u56 1 = .pointer (some ⟨b1, o1, none⟩) := hp59 1 (by kernel_rfl)
    have hp65 : u56 4 = .slice ad2 ys.length cap2 := hp59 4 (by kernel_rfl)
    refine WR.eqF (F' := [(6, u56 0), (7, u56 1), (8, u56 2), (9, u56 3), (10, u56 4), (11, u56 5), (3, u56 6), (0, .pointer (some ⟨g0, 0, none⟩)), (1, .pointer (some ⟨g1, 0, none⟩))]) (by kernel_rfl) ?_
    refine WR.eqF (F' := [(6, u56 0), (7, .pointer (some ⟨b1, o1, none⟩)), (8, u56 2), (9, u56 3), (10, .slice ad2 ys.length cap2), (11, u56 5), (3, u56 6), (0, .pointer (some ⟨g0, 0, none⟩)), (1, .pointer (some ⟨g1, 0, none⟩))]) (by rw [hp64, hp65]) ?_
    refine WR.callX (dst := some 11) (by kernel_rfl) (of_no ad2 ys.length cap2 w57 (by omega)) ?_
    intro w66 hc67
    have hz69 := hc67.size
    have hC68 := hC60.pure hc67
    have hb70 := hb62.pure hc67
    have hb71 := hb63.pure hc67
    exact panicV (P := Try.prog) (fn := Try.f30) ⟨rfl, hC68⟩
  ·
    intro u72 w73 hW74 hp75
    have hz77 := hW74.size
    have hC76 := (Chg.refl [] w).pure hW74
    have hb78 := hb0.pure hW74
    have hb79 := hb1.pure hW74
    refine WR.eqF (F' := [(6, u72 0), (7, u72 1), (8, u72 2), (9, u72 3), (10, u72 4), (11, u72 5), (3, u72 6), (0, .pointer (some ⟨g0, 0, none⟩)), (1, .pointer (some ⟨g1, 0, none⟩))]) (by kernel_rfl) ?_
    refine WR.alloc (dst := some 3) (e := 47) (by kernel_rfl) (Array.replicate 512 (.bool false)) (by kernel_rfl) ?_
    intro g80 w81 hN82
    have hl85 : g0 < g80 := Nat.lt_of_lt_of_le hb78.lt hN82.fresh
    have hl86 : g1 < g80 := Nat.lt_of_lt_of_le hb79.lt hN82.fresh
    have hf84 : w.heap.size ≤ g80 := Nat.le_trans hC76.size hN82.fresh
    have hfr88 := hN82.fresh
    have hc87 := hN82.chg
    have hz90 := hc87.size
    have hC89 := hC76.pure hc87
    have hb91 := hb78.pure hc87
    have hb92 := hb79.pure hc87
    have hb83 := hN82.blk
    have hg93 := hb83.lt
    refine WR.fin (by kernel_rfl) ?_
    exact fun _ ha => ⟨hc87, _, ha.cast (by kernel_rfl), ⟨⟨fun _ => .inr (by simp only [adOf, bk]; omega), alNone (by decide)⟩, ⟨g80, rfl, hb83, by omega⟩⟩⟩
  ·
    intro u94 w95 hW96 hr97 hD98 hal99
    exact (hr97 5 (by omega)).elim
end Go.V
