import Derived.Test.YtbklhipicfimeaaProg
import Derived.Test.YtbklhipicfimeaaSc
import Derived.Test.YtbklhipicfimeaaDf
namespace Go.V
open Go.RowKit Go.Proofs
theorem tried_Set_pan (c0_ c1_ c2_ : Nat) (x : Int) (w : World) (hc : ∀ w', Chg [] w w' → Calls Try.prog 26 #[.pointer (some ⟨c0_, 0, none⟩), .pointer (some ⟨c1_, 0, none⟩), .pointer (some ⟨c2_, 0, none⟩)] w' (Pan w' (.iface 25 (.int .i64 x)))) : Calls Try.prog 25 #[.func (.func 26) #[] #[.pointer (some ⟨c0_, 0, none⟩), .pointer (some ⟨c1_, 0, none⟩), .pointer (some ⟨c2_, 0, none⟩)]] w (RetV w (.tuple #[.slice none 0 0, .int .i64 x])) := by
  refine calls_of_CW_defers Try.func25 rfl (n := 7) Try.ntmps25 (by kernel_rfl) [0] (F := [(0, .func (.func 26) #[] #[.pointer (some ⟨c0_, 0, none⟩), .pointer (some ⟨c1_, 0, none⟩), .pointer (some ⟨c2_, 0, none⟩)])]) (by kernel_rfl) ?_
  refine CW.seq fun K1 hK1 => ?_
  refine CW.region ?_
  refine WR.batch 1 [(0, .func (.func 26) #[] #[.pointer (some ⟨c0_, 0, none⟩), .pointer (some ⟨c1_, 0, none⟩), .pointer (some ⟨c2_, 0, none⟩)]), (2, .slice none 0 0)] (by kernel_rfl) ?_
  refine WR.alloc (dst := some 3) (e := 25) (by kernel_rfl) #[.int .i64 (0 : Int)] (by kernel_rfl) ?_
  intro g2 w3 hN4
  have hf6 : w.heap.size ≤ g2 := hN4.fresh
  have hfr8 := hN4.fresh
  have hc7 := hN4.chg
  have hz10 := hc7.size
  have hC9 := (Chg.refl [] w).pure hc7
  have hb5 := hN4.blk
  have hg11 := hb5.lt
  refine WR.fin (by kernel_rfl) ?_
  refine go hK1 ?_
  refine CW.seq fun K12 hK12 => ?_
  refine CW.region ?_
  refine WR.batch 1 [(0, .func (.func 26) #[] #[.pointer (some ⟨c0_, 0, none⟩), .pointer (some ⟨c1_, 0, none⟩), .pointer (some ⟨c2_, 0, none⟩)]), (2, .slice none 0 0), (3, .pointer (some ⟨g2, 0, none⟩)), (4, .func (.func 34) #[] #[.pointer (some ⟨g2, 0, none⟩)])] (by kernel_rfl) ?_
  refine WR.defer (dst := none) (d := { target := .fn (.func 34) #[.pointer (some ⟨g2, 0, none⟩)], args := #[] }) (by kernel_rfl) ?_
  refine WR.fin (by kernel_rfl) ?_
  refine go hK12 ?_
  refine CW.seq fun K13 hK13 => ?_
  refine CW.region ?_
  refine WR.batch 1 [(2, .slice none 0 0), (3, .pointer (some ⟨g2, 0, none⟩)), (5, .func (.func 26) #[] #[.pointer (some ⟨c0_, 0, none⟩), .pointer (some ⟨c1_, 0, none⟩), .pointer (some ⟨c2_, 0, none⟩)])] (by kernel_rfl) ?_
  refine WR.callX (dst := some 6) (by kernel_rfl) (hc w3 hC9) ?_
  intro w14 hc15
  have hz17 := hc15.size
  have hC16 := hC9.pure hc15
  have hb18 := hb5.pure hc15
  exact panicD (P := Try.prog) (fn := Try.f25) (d := { target := .fn (.func 34) #[.pointer (some ⟨g2, 0, none⟩)], args := #[] }) (fv := .func 34) (cap := #[.pointer (some ⟨g2, 0, none⟩)]) (f := 34) (args := #[.pointer (some ⟨g2, 0, none⟩)]) (M := fun w1 => Chg [g2] w14 w1 ∧ Blk w1 g2 #[.int .i64 x] 25) (x := .iface 25 (.int .i64 x)) rfl (by kernel_rfl) (tb_pan g2 x w14 hb18) (fun _ => [.slice none 0 0, .int .i64 x]) (fun w1 hM => ⟨rfl, ⟨⟨g2, 0, none⟩, rfl, run_loadVar_ldv (hM.2) (by kernel_rfl)⟩, trivial⟩) (fun w1 hM => ⟨(hC16).step hM.1 (by intro t ht; simp only [List.mem_cons, List.not_mem_nil, or_false] at ht; subst ht; exact .inr (by omega)), rfl⟩)

theorem tried_Set_ok (c0_ c1_ c2_ : Nat) (l : List Bool) (w : World) (hc : ∀ w', Chg [] w w' → Calls Try.prog 26 #[.pointer (some ⟨c0_, 0, none⟩), .pointer (some ⟨c1_, 0, none⟩), .pointer (some ⟨c2_, 0, none⟩)] w' (Ret [] w' fun v w1 => OwnB w'.heap.size l v w1)) : Calls Try.prog 25 #[.func (.func 26) #[] #[.pointer (some ⟨c0_, 0, none⟩), .pointer (some ⟨c1_, 0, none⟩), .pointer (some ⟨c2_, 0, none⟩)]] w (Ret [] w fun v w' => ∃ ad cap e, v = .tuple #[.slice ad l.length cap, .int .i64 0] ∧ Own w' w.heap.size e 1 ad l.length cap (bo l)) := by
  refine calls_of_CW_defers Try.func25 rfl (n := 7) Try.ntmps25 (by kernel_rfl) [0] (F := [(0, .func (.func 26) #[] #[.pointer (some ⟨c0_, 0, none⟩), .pointer (some ⟨c1_, 0, none⟩), .pointer (some ⟨c2_, 0, none⟩)])]) (by kernel_rfl) ?_
  refine CW.seq fun K1 hK1 => ?_
  refine CW.region ?_
  refine WR.batch 1 [(0, .func (.func 26) #[] #[.pointer (some ⟨c0_, 0, none⟩), .pointer (some ⟨c1_, 0, none⟩), .pointer (some ⟨c2_, 0, none⟩)]), (2, .slice none 0 0)] (by kernel_rfl) ?_
  refine WR.alloc (dst := some 3) (e := 25) (by kernel_rfl) #[.int .i64 (0 : Int)] (by kernel_rfl) ?_
  intro g2 w3 hN4
  have hf6 : w.heap.size ≤ g2 := hN4.fresh
  have hfr8 := hN4.fresh
  have hc7 := hN4.chg
  have hz10 := hc7.size
  have hC9 := (Chg.refl [] w).pure hc7
  have hb5 := hN4.blk
  have hg11 := hb5.lt
  refine WR.fin (by kernel_rfl) ?_
  refine go hK1 ?_
  refine CW.seq fun K12 hK12 => ?_
  refine CW.region ?_
  refine WR.batch 1 [(0, .func (.func 26) #[] #[.pointer (some ⟨c0_, 0, none⟩), .pointer (some ⟨c1_, 0, none⟩), .pointer (some ⟨c2_, 0, none⟩)]), (2, .slice none 0 0), (3, .pointer (some ⟨g2, 0, none⟩)), (4, .func (.func 34) #[] #[.pointer (some ⟨g2, 0, none⟩)])] (by kernel_rfl) ?_
  refine WR.defer (dst := none) (d := { target := .fn (.func 34) #[.pointer (some ⟨g2, 0, none⟩)], args := #[] }) (by kernel_rfl) ?_
  refine WR.fin (by kernel_rfl) ?_
  refine go hK12 ?_
  refine CW.seq fun K13 hK13 => ?_
  refine CW.region ?_
  refine WR.batch 1 [(2, .slice none 0 0), (3, .pointer (some ⟨g2, 0, none⟩)), (5, .func (.func 26) #[] #[.pointer (some ⟨c0_, 0, none⟩), .pointer (some ⟨c1_, 0, none⟩), .pointer (some ⟨c2_, 0, none⟩)])] (by kernel_rfl) ?_
  refine WR.call (dst := some 6) (by kernel_rfl) (hc w3 hC9) ?_
  rintro _ w18 hc19 ⟨ad14, cap15, e16, rfl, ho17⟩
  have hz21 := hc19.size
  have hC20 := hC9.pure hc19
  have hb22 := hb5.pure hc19
  refine WR.batch 1 [(2, .slice ad14 l.length cap15), (3, .pointer (some ⟨g2, 0, none⟩))] (by kernel_rfl) ?_
  refine WR.store (t := 25) (o := 0) (v := .int .i64 (0 : Int)) hb22 (by kernel_rfl) #[.int .i64 (0 : Int)] (by kernel_rfl) ?_
  intro w23 hb24 hc25
  have hz27 := hc25.size
  have hC26 := hC20.step hc25 (by intro t ht; simp only [List.mem_cons, List.not_mem_nil, or_false] at ht; subst ht; first | exact .inr (by omega) | exact .inl (by simp))
  have ho28 := ho17.chg hc25 (by exact ho17.off1 (.inl (by omega)))
  refine WR.fin (by kernel_rfl) ?_
  refine go hK13 ?_
  refine CW.ret ?_
  exact retD (P := Try.prog) (fn := Try.f25) (d := { target := .fn (.func 34) #[.pointer (some ⟨g2, 0, none⟩)], args := #[] }) (fv := .func 34) (cap := #[.pointer (some ⟨g2, 0, none⟩)]) (f := 34) (args := #[.pointer (some ⟨g2, 0, none⟩)]) (M := fun w1 => Chg [] w23 w1) rfl (by kernel_rfl) (tb_ret g2 w23) (fun _ => [.slice ad14 l.length cap15, .int .i64 (0 : Int)]) (fun w1 hM => ⟨rfl, ⟨⟨g2, 0, none⟩, rfl, run_loadVar_ldv (hb24.pure hM) (by kernel_rfl)⟩, trivial⟩) (fun w1 hM => ⟨(hC26).pure hM, ⟨_, _, _, rfl, (ho28.weak (by omega)).pure hM⟩⟩)

theorem Set_pan (ad : Option Addr) (m cap : Nat) (at_ size : Int) (x : Int) (w : World) (hc : ∀ c0_ c1_ c2_ w', Chg [] w w' → Blk w' c0_ #[.slice ad m cap] 22 → Blk w' c1_ #[.int .i64 at_] 2 → Blk w' c2_ #[.int .i64 size] 3 → Calls Try.prog 26 #[.pointer (some ⟨c0_, 0, none⟩), .pointer (some ⟨c1_, 0, none⟩), .pointer (some ⟨c2_, 0, none⟩)] w' (Pan w' (.iface 25 (.int .i64 x))))  : Calls Try.prog 9 #[.slice ad m cap, .int .i64 at_, .int .i64 size] w (RetV w (.tuple #[.slice none 0 0, .int .i64 x])) := by
  refine calls_of_CW Try.func9 rfl (n := 12) Try.ntmps9 (by kernel_rfl) [0, 1, 2] (F := [(0, .slice ad m cap), (1, .int .i64 at_), (2, .int .i64 size)]) (by kernel_rfl) ?_
  refine CW.seq fun K1 hK1 => ?_
  refine CW.region ?_
  refine WR.box (dst := some 3) (e := 22) (v := .slice ad m cap) (by kernel_rfl) #[.slice ad m cap] (by kernel_rfl) ?_
  intro g2 w3 hN4
  have hf6 : w.heap.size ≤ g2 := hN4.fresh
  have hfr8 := hN4.fresh
  have hc7 := hN4.chg
  have hz10 := hc7.size
  have hC9 := (Chg.refl [] w).pure hc7
  have hb5 := hN4.blk
  have hg11 := hb5.lt
  refine WR.box (dst := some 4) (e := 2) (v := .int .i64 at_) (by kernel_rfl) #[.int .i64 at_] (by kernel_rfl) ?_
  intro g12 w13 hN14
  have hl17 : g2 < g12 := Nat.lt_of_lt_of_le hb5.lt hN14.fresh
  have hf16 : w.heap.size ≤ g12 := Nat.le_trans hC9.size hN14.fresh
  have hfr19 := hN14.fresh
  have hc18 := hN14.chg
  have hz21 := hc18.size
  have hC20 := hC9.pure hc18
  have hb22 := hb5.pure hc18
  have hb15 := hN14.blk
  have hg23 := hb15.lt
  refine WR.box (dst := some 5) (e := 3) (v := .int .i64 size) (by kernel_rfl) #[.int .i64 size] (by kernel_rfl) ?_
  intro g24 w25 hN26
  have hl29 : g2 < g24 := Nat.lt_of_lt_of_le hb22.lt hN26.fresh
  have hl30 : g12 < g24 := Nat.lt_of_lt_of_le hb15.lt hN26.fresh
  have hf28 : w.heap.size ≤ g24 := Nat.le_trans hC20.size hN26.fresh
  have hfr32 := hN26.fresh
  have hc31 := hN26.chg
  have hz34 := hc31.size
  have hC33 := hC20.pure hc31
  have hb35 := hb22.pure hc31
  have hb36 := hb15.pure hc31
  have hb27 := hN26.blk
  have hg37 := hb27.lt
  refine WR.batch 2 [(3, .pointer (some ⟨g2, 0, none⟩)), (4, .pointer (some ⟨g12, 0, none⟩)), (5, .pointer (some ⟨g24, 0, none⟩))] (by kernel_rfl) ?_
  refine WR.fin (by kernel_rfl) ?_
  refine go hK1 ?_
  refine CW.seq fun K38 hK38 => ?_
  refine CW.region ?_
  refine WR.batch 1 [(8, .func (.func 26) #[] #[.pointer (some ⟨g2, 0, none⟩), .pointer (some ⟨g12, 0, none⟩), .pointer (some ⟨g24, 0, none⟩)])] (by kernel_rfl) ?_
  refine WR.call (dst := some 9) (by kernel_rfl) (tried_Set_pan g2 g12 g24 x w25 (fun w1 h1 => hc g2 g12 g24 w1 (hC33.pure h1) (hb35.pure h1) (hb36.pure h1) (hb27.pure h1))) ?_
  rintro _ w39 hc40 rfl
  have hz42 := hc40.size
  have hC41 := hC33.pure hc40
  have hb43 := hb35.pure hc40
  have hb44 := hb36.pure hc40
  have hb45 := hb27.pure hc40
  refine WR.batch 4 [(6, .slice none 0 0), (7, .int .i64 x)] (by kernel_rfl) ?_
  refine WR.fin (by kernel_rfl) ?_
  refine go hK38 ?_
  refine CW.ret ?_
  exact retV (.tuple #[.slice none 0 0, .int .i64 x]) (by kernel_rfl) ⟨hC41, rfl⟩

theorem Set_fine (ad : Option Addr) (m cap : Nat) (at_ size : Int) (l : List Bool) (w : World) (hc : ∀ c0_ c1_ c2_ w', Chg [] w w' → Blk w' c0_ #[.slice ad m cap] 22 → Blk w' c1_ #[.int .i64 at_] 2 → Blk w' c2_ #[.int .i64 size] 3 → Calls Try.prog 26 #[.pointer (some ⟨c0_, 0, none⟩), .pointer (some ⟨c1_, 0, none⟩), .pointer (some ⟨c2_, 0, none⟩)] w' (Ret [] w' fun v w1 => OwnB w'.heap.size l v w1))  : Calls Try.prog 9 #[.slice ad m cap, .int .i64 at_, .int .i64 size] w (Ret [] w fun v w' => ∃ ad cap e, v = .tuple #[.slice ad l.length cap, .int .i64 0] ∧ Own w' w.heap.size e 1 ad l.length cap (bo l)) := by
  refine calls_of_CW Try.func9 rfl (n := 12) Try.ntmps9 (by kernel_rfl) [0, 1, 2] (F := [(0, .slice ad m cap), (1, .int .i64 at_), (2, .int .i64 size)]) (by kernel_rfl) ?_
  refine CW.seq fun K1 hK1 => ?_
  refine CW.region ?_
  refine WR.box (dst := some 3) (e := 22) (v := .slice ad m cap) (by kernel_rfl) #[.slice ad m cap] (by kernel_rfl) ?_
  intro g2 w3 hN4
  have hf6 : w.heap.size ≤ g2 := hN4.fresh
  have hfr8 := hN4.fresh
  have hc7 := hN4.chg
  have hz10 := hc7.size
  have hC9 := (Chg.refl [] w).pure hc7
  have hb5 := hN4.blk
  have hg11 := hb5.lt
  refine WR.box (dst := some 4) (e := 2) (v := .int .i64 at_) (by kernel_rfl) #[.int .i64 at_] (by kernel_rfl) ?_
  intro g12 w13 hN14
  have hl17 : g2 < g12 := Nat.lt_of_lt_of_le hb5.lt hN14.fresh
  have hf16 : w.heap.size ≤ g12 := Nat.le_trans hC9.size hN14.fresh
  have hfr19 := hN14.fresh
  have hc18 := hN14.chg
  have hz21 := hc18.size
  have hC20 := hC9.pure hc18
  have hb22 := hb5.pure hc18
  have hb15 := hN14.blk
  have hg23 := hb15.lt
  refine WR.box (dst := some 5) (e := 3) (v := .int .i64 size) (by kernel_rfl) #[.int .i64 size] (by kernel_rfl) ?_
  intro g24 w25 hN26
  have hl29 : g2 < g24 := Nat.lt_of_lt_of_le hb22.lt hN26.fresh
  have hl30 : g12 < g24 := Nat.lt_of_lt_of_le hb15.lt hN26.fresh
  have hf28 : w.heap.size ≤ g24 := Nat.le_trans hC20.size hN26.fresh
  have hfr32 := hN26.fresh
  have hc31 := hN26.chg
  have hz34 := hc31.size
  have hC33 := hC20.pure hc31
  have hb35 := hb22.pure hc31
  have hb36 := hb15.pure hc31
  have hb27 := hN26.blk
  have hg37 := hb27.lt
  refine WR.batch 2 [(3, .pointer (some ⟨g2, 0, none⟩)), (4, .pointer (some ⟨g12, 0, none⟩)), (5, .pointer (some ⟨g24, 0, none⟩))] (by kernel_rfl) ?_
  refine WR.fin (by kernel_rfl) ?_
  refine go hK1 ?_
  refine CW.seq fun K38 hK38 => ?_
  refine CW.region ?_
  refine WR.batch 1 [(8, .func (.func 26) #[] #[.pointer (some ⟨g2, 0, none⟩), .pointer (some ⟨g12, 0, none⟩), .pointer (some ⟨g24, 0, none⟩)])] (by kernel_rfl) ?_
  refine WR.call (dst := some 9) (by kernel_rfl) (tried_Set_ok g2 g12 g24 l w25 (fun w1 h1 => hc g2 g12 g24 w1 (hC33.pure h1) (hb35.pure h1) (hb36.pure h1) (hb27.pure h1))) ?_
  rintro _ w43 hc44 ⟨ad39, cap40, e41, rfl, ho42⟩
  have hz46 := hc44.size
  have hC45 := hC33.pure hc44
  have hb47 := hb35.pure hc44
  have hb48 := hb36.pure hc44
  have hb49 := hb27.pure hc44
  refine WR.batch 4 [(6, .slice ad39 l.length cap40), (7, .int .i64 (0 : Int))] (by kernel_rfl) ?_
  refine WR.fin (by kernel_rfl) ?_
  refine go hK38 ?_
  refine CW.ret ?_
  exact retV (.tuple #[.slice ad39 l.length cap40, .int .i64 (0 : Int)]) (by kernel_rfl) ⟨hC45, ⟨_, _, _, rfl, ho42.weak (by omega)⟩⟩

theorem tried_Join_pan (c0_ c1_ : Nat) (x : Int) (w : World) (hc : ∀ w', Chg [] w w' → Calls Try.prog 30 #[.pointer (some ⟨c0_, 0, none⟩), .pointer (some ⟨c1_, 0, none⟩)] w' (Pan w' (.iface 25 (.int .i64 x)))) : Calls Try.prog 25 #[.func (.func 30) #[] #[.pointer (some ⟨c0_, 0, none⟩), .pointer (some ⟨c1_, 0, none⟩)]] w (RetV w (.tuple #[.slice none 0 0, .int .i64 x])) := by
  refine calls_of_CW_defers Try.func25 rfl (n := 7) Try.ntmps25 (by kernel_rfl) [0] (F := [(0, .func (.func 30) #[] #[.pointer (some ⟨c0_, 0, none⟩), .pointer (some ⟨c1_, 0, none⟩)])]) (by kernel_rfl) ?_
  refine CW.seq fun K1 hK1 => ?_
  refine CW.region ?_
  refine WR.batch 1 [(0, .func (.func 30) #[] #[.pointer (some ⟨c0_, 0, none⟩), .pointer (some ⟨c1_, 0, none⟩)]), (2, .slice none 0 0)] (by kernel_rfl) ?_
  refine WR.alloc (dst := some 3) (e := 25) (by kernel_rfl) #[.int .i64 (0 : Int)] (by kernel_rfl) ?_
  intro g2 w3 hN4
  have hf6 : w.heap.size ≤ g2 := hN4.fresh
  have hfr8 := hN4.fresh
  have hc7 := hN4.chg
  have hz10 := hc7.size
  have hC9 := (Chg.refl [] w).pure hc7
  have hb5 := hN4.blk
  have hg11 := hb5.lt
  refine WR.fin (by kernel_rfl) ?_
  refine go hK1 ?_
  refine CW.seq fun K12 hK12 => ?_
  refine CW.region ?_
  refine WR.batch 1 [(0, .func (.func 30) #[] #[.pointer (some ⟨c0_, 0, none⟩), .pointer (some ⟨c1_, 0, none⟩)]), (2, .slice none 0 0), (3, .pointer (some ⟨g2, 0, none⟩)), (4, .func (.func 34) #[] #[.pointer (some ⟨g2, 0, none⟩)])] (by kernel_rfl) ?_
  refine WR.defer (dst := none) (d := { target := .fn (.func 34) #[.pointer (some ⟨g2, 0, none⟩)], args := #[] }) (by kernel_rfl) ?_
  refine WR.fin (by kernel_rfl) ?_
  refine go hK12 ?_
  refine CW.seq fun K13 hK13 => ?_
  refine CW.region ?_
  refine WR.batch 1 [(2, .slice none 0 0), (3, .pointer (some ⟨g2, 0, none⟩)), (5, .func (.func 30) #[] #[.pointer (some ⟨c0_, 0, none⟩), .pointer (some ⟨c1_, 0, none⟩)])] (by kernel_rfl) ?_
  refine WR.callX (dst := some 6) (by kernel_rfl) (hc w3 hC9) ?_
  intro w14 hc15
  have hz17 := hc15.size
  have hC16 := hC9.pure hc15
  have hb18 := hb5.pure hc15
  exact panicD (P := Try.prog) (fn := Try.f25) (d := { target := .fn (.func 34) #[.pointer (some ⟨g2, 0, none⟩)], args := #[] }) (fv := .func 34) (cap := #[.pointer (some ⟨g2, 0, none⟩)]) (f := 34) (args := #[.pointer (some ⟨g2, 0, none⟩)]) (M := fun w1 => Chg [g2] w14 w1 ∧ Blk w1 g2 #[.int .i64 x] 25) (x := .iface 25 (.int .i64 x)) rfl (by kernel_rfl) (tb_pan g2 x w14 hb18) (fun _ => [.slice none 0 0, .int .i64 x]) (fun w1 hM => ⟨rfl, ⟨⟨g2, 0, none⟩, rfl, run_loadVar_ldv (hM.2) (by kernel_rfl)⟩, trivial⟩) (fun w1 hM => ⟨(hC16).step hM.1 (by intro t ht; simp only [List.mem_cons, List.not_mem_nil, or_false] at ht; subst ht; exact .inr (by omega)), rfl⟩)

theorem tried_Join_ok (c0_ c1_ : Nat) (l : List Bool) (w : World) (hc : ∀ w', Chg [] w w' → Calls Try.prog 30 #[.pointer (some ⟨c0_, 0, none⟩), .pointer (some ⟨c1_, 0, none⟩)] w' (Ret [] w' fun v w1 => OwnB w'.heap.size l v w1)) : Calls Try.prog 25 #[.func (.func 30) #[] #[.pointer (some ⟨c0_, 0, none⟩), .pointer (some ⟨c1_, 0, none⟩)]] w (Ret [] w fun v w' => ∃ ad cap e, v = .tuple #[.slice ad l.length cap, .int .i64 0] ∧ Own w' w.heap.size e 1 ad l.length cap (bo l)) := by
  refine calls_of_CW_defers Try.func25 rfl (n := 7) Try.ntmps25 (by kernel_rfl) [0] (F := [(0, .func (.func 30) #[] #[.pointer (some ⟨c0_, 0, none⟩), .pointer (some ⟨c1_, 0, none⟩)])]) (by kernel_rfl) ?_
  refine CW.seq fun K1 hK1 => ?_
  refine CW.region ?_
  refine WR.batch 1 [(0, .func (.func 30) #[] #[.pointer (some ⟨c0_, 0, none⟩), .pointer (some ⟨c1_, 0, none⟩)]), (2, .slice none 0 0)] (by kernel_rfl) ?_
  refine WR.alloc (dst := some 3) (e := 25) (by kernel_rfl) #[.int .i64 (0 : Int)] (by kernel_rfl) ?_
  intro g2 w3 hN4
  have hf6 : w.heap.size ≤ g2 := hN4.fresh
  have hfr8 := hN4.fresh
  have hc7 := hN4.chg
  have hz10 := hc7.size
  have hC9 := (Chg.refl [] w).pure hc7
  have hb5 := hN4.blk
  have hg11 := hb5.lt
  refine WR.fin (by kernel_rfl) ?_
  refine go hK1 ?_
  refine CW.seq fun K12 hK12 => ?_
  refine CW.region ?_
  refine WR.batch 1 [(0, .func (.func 30) #[] #[.pointer (some ⟨c0_, 0, none⟩), .pointer (some ⟨c1_, 0, none⟩)]), (2, .slice none 0 0), (3, .pointer (some ⟨g2, 0, none⟩)), (4, .func (.func 34) #[] #[.pointer (some ⟨g2, 0, none⟩)])] (by kernel_rfl) ?_
  refine WR.defer (dst := none) (d := { target := .fn (.func 34) #[.pointer (some ⟨g2, 0, none⟩)], args := #[] }) (by kernel_rfl) ?_
  refine WR.fin (by kernel_rfl) ?_
  refine go hK12 ?_
  refine CW.seq fun K13 hK13 => ?_
  refine CW.region ?_
  refine WR.batch 1 [(2, .slice none 0 0), (3, .pointer (some ⟨g2, 0, none⟩)), (5, .func (.func 30) #[] #[.pointer (some ⟨c0_, 0, none⟩), .pointer (some ⟨c1_, 0, none⟩)])] (by kernel_rfl) ?_
  refine WR.call (dst := some 6) (by kernel_rfl) (hc w3 hC9) ?_
  rintro _ w18 hc19 ⟨ad14, cap15, e16, rfl, ho17⟩
  have hz21 := hc19.size
  have hC20 := hC9.pure hc19
  have hb22 := hb5.pure hc19
  refine WR.batch 1 [(2, .slice ad14 l.length cap15), (3, .pointer (some ⟨g2, 0, none⟩))] (by kernel_rfl) ?_
  refine WR.store (t := 25) (o := 0) (v := .int .i64 (0 : Int)) hb22 (by kernel_rfl) #[.int .i64 (0 : Int)] (by kernel_rfl) ?_
  intro w23 hb24 hc25
  have hz27 := hc25.size
  have hC26 := hC20.step hc25 (by intro t ht; simp only [List.mem_cons, List.not_mem_nil, or_false] at ht; subst ht; first | exact .inr (by omega) | exact .inl (by simp))
  have ho28 := ho17.chg hc25 (by exact ho17.off1 (.inl (by omega)))
  refine WR.fin (by kernel_rfl) ?_
  refine go hK13 ?_
  refine CW.ret ?_
  exact retD (P := Try.prog) (fn := Try.f25) (d := { target := .fn (.func 34) #[.pointer (some ⟨g2, 0, none⟩)], args := #[] }) (fv := .func 34) (cap := #[.pointer (some ⟨g2, 0, none⟩)]) (f := 34) (args := #[.pointer (some ⟨g2, 0, none⟩)]) (M := fun w1 => Chg [] w23 w1) rfl (by kernel_rfl) (tb_ret g2 w23) (fun _ => [.slice ad14 l.length cap15, .int .i64 (0 : Int)]) (fun w1 hM => ⟨rfl, ⟨⟨g2, 0, none⟩, rfl, run_loadVar_ldv (hb24.pure hM) (by kernel_rfl)⟩, trivial⟩) (fun w1 hM => ⟨(hC26).pure hM, ⟨_, _, _, rfl, (ho28.weak (by omega)).pure hM⟩⟩)

theorem Join_pan (ad1 ad2 : Option Addr) (m1 m2 cap1 cap2 : Nat) (x : Int) (w : World) (hc : ∀ c0_ c1_ w', Chg [] w w' → Blk w' c0_ #[.slice ad1 m1 cap1] 22 → Blk w' c1_ #[.slice ad2 m2 cap2] 22 → Calls Try.prog 30 #[.pointer (some ⟨c0_, 0, none⟩), .pointer (some ⟨c1_, 0, none⟩)] w' (Pan w' (.iface 25 (.int .i64 x))))  : Calls Try.prog 11 #[.slice ad1 m1 cap1, .slice ad2 m2 cap2] w (RetV w (.slice none 0 0)) := by
  refine calls_of_CW Try.func11 rfl (n := 13) Try.ntmps11 (by kernel_rfl) [0, 1] (F := [(0, .slice ad1 m1 cap1), (1, .slice ad2 m2 cap2)]) (by kernel_rfl) ?_
  refine CW.seq fun K1 hK1 => ?_
  refine CW.region ?_
  refine WR.box (dst := some 2) (e := 22) (v := .slice ad1 m1 cap1) (by kernel_rfl) #[.slice ad1 m1 cap1] (by kernel_rfl) ?_
  intro g2 w3 hN4
  have hf6 : w.heap.size ≤ g2 := hN4.fresh
  have hfr8 := hN4.fresh
  have hc7 := hN4.chg
  have hz10 := hc7.size
  have hC9 := (Chg.refl [] w).pure hc7
  have hb5 := hN4.blk
  have hg11 := hb5.lt
  refine WR.box (dst := some 3) (e := 22) (v := .slice ad2 m2 cap2) (by kernel_rfl) #[.slice ad2 m2 cap2] (by kernel_rfl) ?_
  intro g12 w13 hN14
  have hl17 : g2 < g12 := Nat.lt_of_lt_of_le hb5.lt hN14.fresh
  have hf16 : w.heap.size ≤ g12 := Nat.le_trans hC9.size hN14.fresh
  have hfr19 := hN14.fresh
  have hc18 := hN14.chg
  have hz21 := hc18.size
  have hC20 := hC9.pure hc18
  have hb22 := hb5.pure hc18
  have hb15 := hN14.blk
  have hg23 := hb15.lt
  refine WR.batch 1 [(2, .pointer (some ⟨g2, 0, none⟩)), (3, .pointer (some ⟨g12, 0, none⟩))] (by kernel_rfl) ?_
  refine WR.fin (by kernel_rfl) ?_
  refine go hK1 ?_
  refine CW.seq fun K24 hK24 => ?_
  refine CW.region ?_
  refine WR.batch 1 [(8, .func (.func 30) #[] #[.pointer (some ⟨g2, 0, none⟩), .pointer (some ⟨g12, 0, none⟩)])] (by kernel_rfl) ?_
  refine WR.call (dst := some 9) (by kernel_rfl) (tried_Join_pan g2 g12 x w13 (fun w1 h1 => hc g2 g12 w1 (hC20.pure h1) (hb22.pure h1) (hb15.pure h1))) ?_
  rintro _ w25 hc26 rfl
  have hz28 := hc26.size
  have hC27 := hC20.pure hc26
  have hb29 := hb22.pure hc26
  have hb30 := hb15.pure hc26
  refine WR.batch 5 [(5, .slice none 0 0)] (by kernel_rfl) ?_
  refine WR.fin (by kernel_rfl) ?_
  refine go hK24 ?_
  refine CW.seq fun K31 hK31 => ?_
  refine CW.region ?_
  refine WR.batch 2 [(4, .slice none 0 0)] (by kernel_rfl) ?_
  refine WR.fin (by kernel_rfl) ?_
  refine go hK31 ?_
  refine CW.ret ?_
  exact retV (.slice none 0 0) (by kernel_rfl) ⟨hC27, rfl⟩

theorem Join_fine (ad1 ad2 : Option Addr) (m1 m2 cap1 cap2 : Nat) (l : List Bool) (w : World) (hc : ∀ c0_ c1_ w', Chg [] w w' → Blk w' c0_ #[.slice ad1 m1 cap1] 22 → Blk w' c1_ #[.slice ad2 m2 cap2] 22 → Calls Try.prog 30 #[.pointer (some ⟨c0_, 0, none⟩), .pointer (some ⟨c1_, 0, none⟩)] w' (Ret [] w' fun v w1 => OwnB w'.heap.size l v w1))  : Calls Try.prog 11 #[.slice ad1 m1 cap1, .slice ad2 m2 cap2] w (Ret [] w fun v w' => OwnB w.heap.size l v w') := by
  refine calls_of_CW Try.func11 rfl (n := 13) Try.ntmps11 (by kernel_rfl) [0, 1] (F := [(0, .slice ad1 m1 cap1), (1, .slice ad2 m2 cap2)]) (by kernel_rfl) ?_
  refine CW.seq fun K1 hK1 => ?_
  refine CW.region ?_
  refine WR.box (dst := some 2) (e := 22) (v := .slice ad1 m1 cap1) (by kernel_rfl) #[.slice ad1 m1 cap1] (by kernel_rfl) ?_
  intro g2 w3 hN4
  have hf6 : w.heap.size ≤ g2 := hN4.fresh
  have hfr8 := hN4.fresh
  have hc7 := hN4.chg
  have hz10 := hc7.size
  have hC9 := (Chg.refl [] w).pure hc7
  have hb5 := hN4.blk
  have hg11 := hb5.lt
  refine WR.box (dst := some 3) (e := 22) (v := .slice ad2 m2 cap2) (by kernel_rfl) #[.slice ad2 m2 cap2] (by kernel_rfl) ?_
  intro g12 w13 hN14
  have hl17 : g2 < g12 := Nat.lt_of_lt_of_le hb5.lt hN14.fresh
  have hf16 : w.heap.size ≤ g12 := Nat.le_trans hC9.size hN14.fresh
  have hfr19 := hN14.fresh
  have hc18 := hN14.chg
  have hz21 := hc18.size
  have hC20 := hC9.pure hc18
  have hb22 := hb5.pure hc18
  have hb15 := hN14.blk
  have hg23 := hb15.lt
  refine WR.batch 1 [(2, .pointer (some ⟨g2, 0, none⟩)), (3, .pointer (some ⟨g12, 0, none⟩))] (by kernel_rfl) ?_
  refine WR.fin (by kernel_rfl) ?_
  refine go hK1 ?_
  refine CW.seq fun K24 hK24 => ?_
  refine CW.region ?_
  refine WR.batch 1 [(8, .func (.func 30) #[] #[.pointer (some ⟨g2, 0, none⟩), .pointer (some ⟨g12, 0, none⟩)])] (by kernel_rfl) ?_
  refine WR.call (dst := some 9) (by kernel_rfl) (tried_Join_ok g2 g12 l w13 (fun w1 h1 => hc g2 g12 w1 (hC20.pure h1) (hb22.pure h1) (hb15.pure h1))) ?_
  rintro _ w29 hc30 ⟨ad25, cap26, e27, rfl, ho28⟩
  have hz32 := hc30.size
  have hC31 := hC20.pure hc30
  have hb33 := hb22.pure hc30
  have hb34 := hb15.pure hc30
  refine WR.batch 5 [(5, .slice ad25 l.length cap26)] (by kernel_rfl) ?_
  refine WR.fin (by kernel_rfl) ?_
  refine go hK24 ?_
  refine CW.seq fun K35 hK35 => ?_
  refine CW.region ?_
  refine WR.batch 2 [(4, .slice ad25 l.length cap26)] (by kernel_rfl) ?_
  refine WR.fin (by kernel_rfl) ?_
  refine go hK35 ?_
  refine CW.ret ?_
  exact retV (.slice ad25 l.length cap26) (by kernel_rfl) ⟨hC31, ⟨_, _, _, rfl, ho28.weak (by omega)⟩⟩

theorem tried_Read_pan (c0_ c1_ c2_ : Nat) (x : Int) (w : World) (hc : ∀ w', Chg [] w w' → Calls Try.prog 32 #[.pointer (some ⟨c0_, 0, none⟩), .pointer (some ⟨c1_, 0, none⟩), .pointer (some ⟨c2_, 0, none⟩)] w' (Pan w' (.iface 25 (.int .i64 x)))) : Calls Try.prog 31 #[.func (.func 32) #[] #[.pointer (some ⟨c0_, 0, none⟩), .pointer (some ⟨c1_, 0, none⟩), .pointer (some ⟨c2_, 0, none⟩)]] w (RetV w (.tuple #[.bool false, .int .i64 x])) := by
  refine calls_of_CW_defers Try.func31 rfl (n := 7) Try.ntmps31 (by kernel_rfl) [0] (F := [(0, .func (.func 32) #[] #[.pointer (some ⟨c0_, 0, none⟩), .pointer (some ⟨c1_, 0, none⟩), .pointer (some ⟨c2_, 0, none⟩)])]) (by kernel_rfl) ?_
  refine CW.seq fun K1 hK1 => ?_
  refine CW.region ?_
  refine WR.batch 1 [(0, .func (.func 32) #[] #[.pointer (some ⟨c0_, 0, none⟩), .pointer (some ⟨c1_, 0, none⟩), .pointer (some ⟨c2_, 0, none⟩)]), (2, .bool false)] (by kernel_rfl) ?_
  refine WR.alloc (dst := some 3) (e := 25) (by kernel_rfl) #[.int .i64 (0 : Int)] (by kernel_rfl) ?_
  intro g2 w3 hN4
  have hf6 : w.heap.size ≤ g2 := hN4.fresh
  have hfr8 := hN4.fresh
  have hc7 := hN4.chg
  have hz10 := hc7.size
  have hC9 := (Chg.refl [] w).pure hc7
  have hb5 := hN4.blk
  have hg11 := hb5.lt
  refine WR.fin (by kernel_rfl) ?_
  refine go hK1 ?_
  refine CW.seq fun K12 hK12 => ?_
  refine CW.region ?_
  refine WR.batch 1 [(0, .func (.func 32) #[] #[.pointer (some ⟨c0_, 0, none⟩), .pointer (some ⟨c1_, 0, none⟩), .pointer (some ⟨c2_, 0, none⟩)]), (2, .bool false), (3, .pointer (some ⟨g2, 0, none⟩)), (4, .func (.func 35) #[] #[.pointer (some ⟨g2, 0, none⟩)])] (by kernel_rfl) ?_
  refine WR.defer (dst := none) (d := { target := .fn (.func 35) #[.pointer (some ⟨g2, 0, none⟩)], args := #[] }) (by kernel_rfl) ?_
  refine WR.fin (by kernel_rfl) ?_
  refine go hK12 ?_
  refine CW.seq fun K13 hK13 => ?_
  refine CW.region ?_
  refine WR.batch 1 [(2, .bool false), (3, .pointer (some ⟨g2, 0, none⟩)), (5, .func (.func 32) #[] #[.pointer (some ⟨c0_, 0, none⟩), .pointer (some ⟨c1_, 0, none⟩), .pointer (some ⟨c2_, 0, none⟩)])] (by kernel_rfl) ?_
  refine WR.callX (dst := some 6) (by kernel_rfl) (hc w3 hC9) ?_
  intro w14 hc15
  have hz17 := hc15.size
  have hC16 := hC9.pure hc15
  have hb18 := hb5.pure hc15
  exact panicD (P := Try.prog) (fn := Try.f31) (d := { target := .fn (.func 35) #[.pointer (some ⟨g2, 0, none⟩)], args := #[] }) (fv := .func 35) (cap := #[.pointer (some ⟨g2, 0, none⟩)]) (f := 35) (args := #[.pointer (some ⟨g2, 0, none⟩)]) (M := fun w1 => Chg [g2] w14 w1 ∧ Blk w1 g2 #[.int .i64 x] 25) (x := .iface 25 (.int .i64 x)) rfl (by kernel_rfl) (tt_pan g2 x w14 hb18) (fun _ => [.bool false, .int .i64 x]) (fun w1 hM => ⟨rfl, ⟨⟨g2, 0, none⟩, rfl, run_loadVar_ldv (hM.2) (by kernel_rfl)⟩, trivial⟩) (fun w1 hM => ⟨(hC16).step hM.1 (by intro t ht; simp only [List.mem_cons, List.not_mem_nil, or_false] at ht; subst ht; exact .inr (by omega)), rfl⟩)

theorem tried_Read_ok (c0_ c1_ c2_ : Nat) (l : Bool) (w : World) (hc : ∀ w', Chg [] w w' → Calls Try.prog 32 #[.pointer (some ⟨c0_, 0, none⟩), .pointer (some ⟨c1_, 0, none⟩), .pointer (some ⟨c2_, 0, none⟩)] w' (RetV w' (.bool l))) : Calls Try.prog 31 #[.func (.func 32) #[] #[.pointer (some ⟨c0_, 0, none⟩), .pointer (some ⟨c1_, 0, none⟩), .pointer (some ⟨c2_, 0, none⟩)]] w (RetV w (.tuple #[.bool l, .int .i64 0])) := by
  refine calls_of_CW_defers Try.func31 rfl (n := 7) Try.ntmps31 (by kernel_rfl) [0] (F := [(0, .func (.func 32) #[] #[.pointer (some ⟨c0_, 0, none⟩), .pointer (some ⟨c1_, 0, none⟩), .pointer (some ⟨c2_, 0, none⟩)])]) (by kernel_rfl) ?_
  refine CW.seq fun K1 hK1 => ?_
  refine CW.region ?_
  refine WR.batch 1 [(0, .func (.func 32) #[] #[.pointer (some ⟨c0_, 0, none⟩), .pointer (some ⟨c1_, 0, none⟩), .pointer (some ⟨c2_, 0, none⟩)]), (2, .bool false)] (by kernel_rfl) ?_
  refine WR.alloc (dst := some 3) (e := 25) (by kernel_rfl) #[.int .i64 (0 : Int)] (by kernel_rfl) ?_
  intro g2 w3 hN4
  have hf6 : w.heap.size ≤ g2 := hN4.fresh
  have hfr8 := hN4.fresh
  have hc7 := hN4.chg
  have hz10 := hc7.size
  have hC9 := (Chg.refl [] w).pure hc7
  have hb5 := hN4.blk
  have hg11 := hb5.lt
  refine WR.fin (by kernel_rfl) ?_
  refine go hK1 ?_
  refine CW.seq fun K12 hK12 => ?_
  refine CW.region ?_
  refine WR.batch 1 [(0, .func (.func 32) #[] #[.pointer (some ⟨c0_, 0, none⟩), .pointer (some ⟨c1_, 0, none⟩), .pointer (some ⟨c2_, 0, none⟩)]), (2, .bool false), (3, .pointer (some ⟨g2, 0, none⟩)), (4, .func (.func 35) #[] #[.pointer (some ⟨g2, 0, none⟩)])] (by kernel_rfl) ?_
  refine WR.defer (dst := none) (d := { target := .fn (.func 35) #[.pointer (some ⟨g2, 0, none⟩)], args := #[] }) (by kernel_rfl) ?_
  refine WR.fin (by kernel_rfl) ?_
  refine go hK12 ?_
  refine CW.seq fun K13 hK13 => ?_
  refine CW.region ?_
  refine WR.batch 1 [(2, .bool false), (3, .pointer (some ⟨g2, 0, none⟩)), (5, .func (.func 32) #[] #[.pointer (some ⟨c0_, 0, none⟩), .pointer (some ⟨c1_, 0, none⟩), .pointer (some ⟨c2_, 0, none⟩)])] (by kernel_rfl) ?_
  refine WR.call (dst := some 6) (by kernel_rfl) (hc w3 hC9) ?_
  rintro _ w14 hc15 rfl
  have hz17 := hc15.size
  have hC16 := hC9.pure hc15
  have hb18 := hb5.pure hc15
  refine WR.batch 1 [(2, .bool l), (3, .pointer (some ⟨g2, 0, none⟩))] (by kernel_rfl) ?_
  refine WR.store (t := 25) (o := 0) (v := .int .i64 (0 : Int)) hb18 (by kernel_rfl) #[.int .i64 (0 : Int)] (by kernel_rfl) ?_
  intro w19 hb20 hc21
  have hz23 := hc21.size
  have hC22 := hC16.step hc21 (by intro t ht; simp only [List.mem_cons, List.not_mem_nil, or_false] at ht; subst ht; first | exact .inr (by omega) | exact .inl (by simp))
  refine WR.fin (by kernel_rfl) ?_
  refine go hK13 ?_
  refine CW.ret ?_
  exact retD (P := Try.prog) (fn := Try.f31) (d := { target := .fn (.func 35) #[.pointer (some ⟨g2, 0, none⟩)], args := #[] }) (fv := .func 35) (cap := #[.pointer (some ⟨g2, 0, none⟩)]) (f := 35) (args := #[.pointer (some ⟨g2, 0, none⟩)]) (M := fun w1 => Chg [] w19 w1) rfl (by kernel_rfl) (tt_ret g2 w19) (fun _ => [.bool l, .int .i64 (0 : Int)]) (fun w1 hM => ⟨rfl, ⟨⟨g2, 0, none⟩, rfl, run_loadVar_ldv (hb20.pure hM) (by kernel_rfl)⟩, trivial⟩) (fun w1 hM => ⟨(hC22).pure hM, rfl⟩)

theorem Read_pan (ad : Option Addr) (m cap : Nat) (at_ size : Int) (x : Int) (w : World) (hc : ∀ c0_ c1_ c2_ w', Chg [] w w' → Blk w' c0_ #[.slice ad m cap] 22 → Blk w' c1_ #[.int .i64 at_] 2 → Blk w' c2_ #[.int .i64 size] 3 → Calls Try.prog 32 #[.pointer (some ⟨c0_, 0, none⟩), .pointer (some ⟨c1_, 0, none⟩), .pointer (some ⟨c2_, 0, none⟩)] w' (Pan w' (.iface 25 (.int .i64 x))))  : Calls Try.prog 13 #[.slice ad m cap, .int .i64 at_, .int .i64 size] w (RetV w (.int .i64 x)) := by
  refine calls_of_CW Try.func13 rfl (n := 15) Try.ntmps13 (by kernel_rfl) [0, 1, 2] (F := [(0, .slice ad m cap), (1, .int .i64 at_), (2, .int .i64 size)]) (by kernel_rfl) ?_
  refine CW.seq fun K1 hK1 => ?_
  refine CW.region ?_
  refine WR.box (dst := some 3) (e := 22) (v := .slice ad m cap) (by kernel_rfl) #[.slice ad m cap] (by kernel_rfl) ?_
  intro g2 w3 hN4
  have hf6 : w.heap.size ≤ g2 := hN4.fresh
  have hfr8 := hN4.fresh
  have hc7 := hN4.chg
  have hz10 := hc7.size
  have hC9 := (Chg.refl [] w).pure hc7
  have hb5 := hN4.blk
  have hg11 := hb5.lt
  refine WR.box (dst := some 4) (e := 2) (v := .int .i64 at_) (by kernel_rfl) #[.int .i64 at_] (by kernel_rfl) ?_
  intro g12 w13 hN14
  have hl17 : g2 < g12 := Nat.lt_of_lt_of_le hb5.lt hN14.fresh
  have hf16 : w.heap.size ≤ g12 := Nat.le_trans hC9.size hN14.fresh
  have hfr19 := hN14.fresh
  have hc18 := hN14.chg
  have hz21 := hc18.size
  have hC20 := hC9.pure hc18
  have hb22 := hb5.pure hc18
  have hb15 := hN14.blk
  have hg23 := hb15.lt
  refine WR.box (dst := some 5) (e := 3) (v := .int .i64 size) (by kernel_rfl) #[.int .i64 size] (by kernel_rfl) ?_
  intro g24 w25 hN26
  have hl29 : g2 < g24 := Nat.lt_of_lt_of_le hb22.lt hN26.fresh
  have hl30 : g12 < g24 := Nat.lt_of_lt_of_le hb15.lt hN26.fresh
  have hf28 : w.heap.size ≤ g24 := Nat.le_trans hC20.size hN26.fresh
  have hfr32 := hN26.fresh
  have hc31 := hN26.chg
  have hz34 := hc31.size
  have hC33 := hC20.pure hc31
  have hb35 := hb22.pure hc31
  have hb36 := hb15.pure hc31
  have hb27 := hN26.blk
  have hg37 := hb27.lt
  refine WR.batch 1 [(3, .pointer (some ⟨g2, 0, none⟩)), (4, .pointer (some ⟨g12, 0, none⟩)), (5, .pointer (some ⟨g24, 0, none⟩))] (by kernel_rfl) ?_
  refine WR.fin (by kernel_rfl) ?_
  refine go hK1 ?_
  refine CW.seq fun K38 hK38 => ?_
  refine CW.region ?_
  refine WR.batch 1 [(10, .func (.func 32) #[] #[.pointer (some ⟨g2, 0, none⟩), .pointer (some ⟨g12, 0, none⟩), .pointer (some ⟨g24, 0, none⟩)])] (by kernel_rfl) ?_
  refine WR.call (dst := some 11) (by kernel_rfl) (tried_Read_pan g2 g12 g24 x w25 (fun w1 h1 => hc g2 g12 g24 w1 (hC33.pure h1) (hb35.pure h1) (hb36.pure h1) (hb27.pure h1))) ?_
  rintro _ w39 hc40 rfl
  have hz42 := hc40.size
  have hC41 := hC33.pure hc40
  have hb43 := hb35.pure hc40
  have hb44 := hb36.pure hc40
  have hb45 := hb27.pure hc40
  refine WR.batch 5 [(8, .int .i64 x)] (by kernel_rfl) ?_
  refine WR.fin (by kernel_rfl) ?_
  refine go hK38 ?_
  refine CW.seq fun K46 hK46 => ?_
  refine CW.region ?_
  refine WR.batch 2 [(6, .int .i64 x)] (by kernel_rfl) ?_
  refine WR.fin (by kernel_rfl) ?_
  refine go hK46 ?_
  refine CW.ret ?_
  exact retV (.int .i64 x) (by kernel_rfl) ⟨hC41, rfl⟩

theorem Read_fine (ad : Option Addr) (m cap : Nat) (at_ size : Int) (l : Bool) (w : World) (hc : ∀ c0_ c1_ c2_ w', Chg [] w w' → Blk w' c0_ #[.slice ad m cap] 22 → Blk w' c1_ #[.int .i64 at_] 2 → Blk w' c2_ #[.int .i64 size] 3 → Calls Try.prog 32 #[.pointer (some ⟨c0_, 0, none⟩), .pointer (some ⟨c1_, 0, none⟩), .pointer (some ⟨c2_, 0, none⟩)] w' (RetV w' (.bool l)))  : Calls Try.prog 13 #[.slice ad m cap, .int .i64 at_, .int .i64 size] w (RetV w (.int .i64 0)) := by
  refine calls_of_CW Try.func13 rfl (n := 15) Try.ntmps13 (by kernel_rfl) [0, 1, 2] (F := [(0, .slice ad m cap), (1, .int .i64 at_), (2, .int .i64 size)]) (by kernel_rfl) ?_
  refine CW.seq fun K1 hK1 => ?_
  refine CW.region ?_
  refine WR.box (dst := some 3) (e := 22) (v := .slice ad m cap) (by kernel_rfl) #[.slice ad m cap] (by kernel_rfl) ?_
  intro g2 w3 hN4
  have hf6 : w.heap.size ≤ g2 := hN4.fresh
  have hfr8 := hN4.fresh
  have hc7 := hN4.chg
  have hz10 := hc7.size
  have hC9 := (Chg.refl [] w).pure hc7
  have hb5 := hN4.blk
  have hg11 := hb5.lt
  refine WR.box (dst := some 4) (e := 2) (v := .int .i64 at_) (by kernel_rfl) #[.int .i64 at_] (by kernel_rfl) ?_
  intro g12 w13 hN14
  have hl17 : g2 < g12 := Nat.lt_of_lt_of_le hb5.lt hN14.fresh
  have hf16 : w.heap.size ≤ g12 := Nat.le_trans hC9.size hN14.fresh
  have hfr19 := hN14.fresh
  have hc18 := hN14.chg
  have hz21 := hc18.size
  have hC20 := hC9.pure hc18
  have hb22 := hb5.pure hc18
  have hb15 := hN14.blk
  have hg23 := hb15.lt
  refine WR.box (dst := some 5) (e := 3) (v := .int .i64 size) (by kernel_rfl) #[.int .i64 size] (by kernel_rfl) ?_
  intro g24 w25 hN26
  have hl29 : g2 < g24 := Nat.lt_of_lt_of_le hb22.lt hN26.fresh
  have hl30 : g12 < g24 := Nat.lt_of_lt_of_le hb15.lt hN26.fresh
  have hf28 : w.heap.size ≤ g24 := Nat.le_trans hC20.size hN26.fresh
  have hfr32 := hN26.fresh
  have hc31 := hN26.chg
  have hz34 := hc31.size
  have hC33 := hC20.pure hc31
  have hb35 := hb22.pure hc31
  have hb36 := hb15.pure hc31
  have hb27 := hN26.blk
  have hg37 := hb27.lt
  refine WR.batch 1 [(3, .pointer (some ⟨g2, 0, none⟩)), (4, .pointer (some ⟨g12, 0, none⟩)), (5, .pointer (some ⟨g24, 0, none⟩))] (by kernel_rfl) ?_
  refine WR.fin (by kernel_rfl) ?_
  refine go hK1 ?_
  refine CW.seq fun K38 hK38 => ?_
  refine CW.region ?_
  refine WR.batch 1 [(10, .func (.func 32) #[] #[.pointer (some ⟨g2, 0, none⟩), .pointer (some ⟨g12, 0, none⟩), .pointer (some ⟨g24, 0, none⟩)])] (by kernel_rfl) ?_
  refine WR.call (dst := some 11) (by kernel_rfl) (tried_Read_ok g2 g12 g24 l w25 (fun w1 h1 => hc g2 g12 g24 w1 (hC33.pure h1) (hb35.pure h1) (hb36.pure h1) (hb27.pure h1))) ?_
  rintro _ w39 hc40 rfl
  have hz42 := hc40.size
  have hC41 := hC33.pure hc40
  have hb43 := hb35.pure hc40
  have hb44 := hb36.pure hc40
  have hb45 := hb27.pure hc40
  refine WR.batch 5 [(8, .int .i64 (0 : Int))] (by kernel_rfl) ?_
  refine WR.fin (by kernel_rfl) ?_
  refine go hK38 ?_
  refine CW.seq fun K46 hK46 => ?_
  refine CW.region ?_
  refine WR.batch 2 [(6, .int .i64 (0 : Int))] (by kernel_rfl) ?_
  refine WR.fin (by kernel_rfl) ?_
  refine go hK46 ?_
  refine CW.ret ?_
  exact retV (.int .i64 (0 : Int)) (by kernel_rfl) ⟨hC41, rfl⟩

theorem tried_Within_pan (c0_ c1_ : Nat) (x : Int) (w : World) (hc : ∀ w', Chg [] w w' → Calls Try.prog 33 #[.pointer (some ⟨c0_, 0, none⟩), .pointer (some ⟨c1_, 0, none⟩)] w' (Pan w' (.iface 25 (.int .i64 x)))) : Calls Try.prog 31 #[.func (.func 33) #[] #[.pointer (some ⟨c0_, 0, none⟩), .pointer (some ⟨c1_, 0, none⟩)]] w (RetV w (.tuple #[.bool false, .int .i64 x])) := by
  refine calls_of_CW_defers Try.func31 rfl (n := 7) Try.ntmps31 (by kernel_rfl) [0] (F := [(0, .func (.func 33) #[] #[.pointer (some ⟨c0_, 0, none⟩), .pointer (some ⟨c1_, 0, none⟩)])]) (by kernel_rfl) ?_
  refine CW.seq fun K1 hK1 => ?_
  refine CW.region ?_
  refine WR.batch 1 [(0, .func (.func 33) #[] #[.pointer (some ⟨c0_, 0, none⟩), .pointer (some ⟨c1_, 0, none⟩)]), (2, .bool false)] (by kernel_rfl) ?_
  refine WR.alloc (dst := some 3) (e := 25) (by kernel_rfl) #[.int .i64 (0 : Int)] (by kernel_rfl) ?_
  intro g2 w3 hN4
  have hf6 : w.heap.size ≤ g2 := hN4.fresh
  have hfr8 := hN4.fresh
  have hc7 := hN4.chg
  have hz10 := hc7.size
  have hC9 := (Chg.refl [] w).pure hc7
  have hb5 := hN4.blk
  have hg11 := hb5.lt
  refine WR.fin (by kernel_rfl) ?_
  refine go hK1 ?_
  refine CW.seq fun K12 hK12 => ?_
  refine CW.region ?_
  refine WR.batch 1 [(0, .func (.func 33) #[] #[.pointer (some ⟨c0_, 0, none⟩), .pointer (some ⟨c1_, 0, none⟩)]), (2, .bool false), (3, .pointer (some ⟨g2, 0, none⟩)), (4, .func (.func 35) #[] #[.pointer (some ⟨g2, 0, none⟩)])] (by kernel_rfl) ?_
  refine WR.defer (dst := none) (d := { target := .fn (.func 35) #[.pointer (some ⟨g2, 0, none⟩)], args := #[] }) (by kernel_rfl) ?_
  refine WR.fin (by kernel_rfl) ?_
  refine go hK12 ?_
  refine CW.seq fun K13 hK13 => ?_
  refine CW.region ?_
  refine WR.batch 1 [(2, .bool false), (3, .pointer (some ⟨g2, 0, none⟩)), (5, .func (.func 33) #[] #[.pointer (some ⟨c0_, 0, none⟩), .pointer (some ⟨c1_, 0, none⟩)])] (by kernel_rfl) ?_
  refine WR.callX (dst := some 6) (by kernel_rfl) (hc w3 hC9) ?_
  intro w14 hc15
  have hz17 := hc15.size
  have hC16 := hC9.pure hc15
  have hb18 := hb5.pure hc15
  exact panicD (P := Try.prog) (fn := Try.f31) (d := { target := .fn (.func 35) #[.pointer (some ⟨g2, 0, none⟩)], args := #[] }) (fv := .func 35) (cap := #[.pointer (some ⟨g2, 0, none⟩)]) (f := 35) (args := #[.pointer (some ⟨g2, 0, none⟩)]) (M := fun w1 => Chg [g2] w14 w1 ∧ Blk w1 g2 #[.int .i64 x] 25) (x := .iface 25 (.int .i64 x)) rfl (by kernel_rfl) (tt_pan g2 x w14 hb18) (fun _ => [.bool false, .int .i64 x]) (fun w1 hM => ⟨rfl, ⟨⟨g2, 0, none⟩, rfl, run_loadVar_ldv (hM.2) (by kernel_rfl)⟩, trivial⟩) (fun w1 hM => ⟨(hC16).step hM.1 (by intro t ht; simp only [List.mem_cons, List.not_mem_nil, or_false] at ht; subst ht; exact .inr (by omega)), rfl⟩)

theorem tried_Within_ok (c0_ c1_ : Nat) (l : Bool) (w : World) (hc : ∀ w', Chg [] w w' → Calls Try.prog 33 #[.pointer (some ⟨c0_, 0, none⟩), .pointer (some ⟨c1_, 0, none⟩)] w' (RetV w' (.bool l))) : Calls Try.prog 31 #[.func (.func 33) #[] #[.pointer (some ⟨c0_, 0, none⟩), .pointer (some ⟨c1_, 0, none⟩)]] w (RetV w (.tuple #[.bool l, .int .i64 0])) := by
  refine calls_of_CW_defers Try.func31 rfl (n := 7) Try.ntmps31 (by kernel_rfl) [0] (F := [(0, .func (.func 33) #[] #[.pointer (some ⟨c0_, 0, none⟩), .pointer (some ⟨c1_, 0, none⟩)])]) (by kernel_rfl) ?_
  refine CW.seq fun K1 hK1 => ?_
  refine CW.region ?_
  refine WR.batch 1 [(0, .func (.func 33) #[] #[.pointer (some ⟨c0_, 0, none⟩), .pointer (some ⟨c1_, 0, none⟩)]), (2, .bool false)] (by kernel_rfl) ?_
  refine WR.alloc (dst := some 3) (e := 25) (by kernel_rfl) #[.int .i64 (0 : Int)] (by kernel_rfl) ?_
  intro g2 w3 hN4
  have hf6 : w.heap.size ≤ g2 := hN4.fresh
  have hfr8 := hN4.fresh
  have hc7 := hN4.chg
  have hz10 := hc7.size
  have hC9 := (Chg.refl [] w).pure hc7
  have hb5 := hN4.blk
  have hg11 := hb5.lt
  refine WR.fin (by kernel_rfl) ?_
  refine go hK1 ?_
  refine CW.seq fun K12 hK12 => ?_
  refine CW.region ?_
  refine WR.batch 1 [(0, .func (.func 33) #[] #[.pointer (some ⟨c0_, 0, none⟩), .pointer (some ⟨c1_, 0, none⟩)]), (2, .bool false), (3, .pointer (some ⟨g2, 0, none⟩)), (4, .func (.func 35) #[] #[.pointer (some ⟨g2, 0, none⟩)])] (by kernel_rfl) ?_
  refine WR.defer (dst := none) (d := { target := .fn (.func 35) #[.pointer (some ⟨g2, 0, none⟩)], args := #[] }) (by kernel_rfl) ?_
  refine WR.fin (by kernel_rfl) ?_
  refine go hK12 ?_
  refine CW.seq fun K13 hK13 => ?_
  refine CW.region ?_
  refine WR.batch 1 [(2, .bool false), (3, .pointer (some ⟨g2, 0, none⟩)), (5, .func (.func 33) #[] #[.pointer (some ⟨c0_, 0, none⟩), .pointer (some ⟨c1_, 0, none⟩)])] (by kernel_rfl) ?_
  refine WR.call (dst := some 6) (by kernel_rfl) (hc w3 hC9) ?_
  rintro _ w14 hc15 rfl
  have hz17 := hc15.size
  have hC16 := hC9.pure hc15
  have hb18 := hb5.pure hc15
  refine WR.batch 1 [(2, .bool l), (3, .pointer (some ⟨g2, 0, none⟩))] (by kernel_rfl) ?_
  refine WR.store (t := 25) (o := 0) (v := .int .i64 (0 : Int)) hb18 (by kernel_rfl) #[.int .i64 (0 : Int)] (by kernel_rfl) ?_
  intro w19 hb20 hc21
  have hz23 := hc21.size
  have hC22 := hC16.step hc21 (by intro t ht; simp only [List.mem_cons, List.not_mem_nil, or_false] at ht; subst ht; first | exact .inr (by omega) | exact .inl (by simp))
  refine WR.fin (by kernel_rfl) ?_
  refine go hK13 ?_
  refine CW.ret ?_
  exact retD (P := Try.prog) (fn := Try.f31) (d := { target := .fn (.func 35) #[.pointer (some ⟨g2, 0, none⟩)], args := #[] }) (fv := .func 35) (cap := #[.pointer (some ⟨g2, 0, none⟩)]) (f := 35) (args := #[.pointer (some ⟨g2, 0, none⟩)]) (M := fun w1 => Chg [] w19 w1) rfl (by kernel_rfl) (tt_ret g2 w19) (fun _ => [.bool l, .int .i64 (0 : Int)]) (fun w1 hM => ⟨rfl, ⟨⟨g2, 0, none⟩, rfl, run_loadVar_ldv (hb20.pure hM) (by kernel_rfl)⟩, trivial⟩) (fun w1 hM => ⟨(hC22).pure hM, rfl⟩)

theorem Within_pan (ad1 ad2 : Option Addr) (m1 m2 cap1 cap2 : Nat) (x : Int) (w : World) (hc : ∀ c0_ c1_ w', Chg [] w w' → Blk w' c0_ #[.slice ad1 m1 cap1] 22 → Blk w' c1_ #[.slice ad2 m2 cap2] 22 → Calls Try.prog 33 #[.pointer (some ⟨c0_, 0, none⟩), .pointer (some ⟨c1_, 0, none⟩)] w' (Pan w' (.iface 25 (.int .i64 x))))  : Calls Try.prog 15 #[.slice ad1 m1 cap1, .slice ad2 m2 cap2] w (RetV w (.bool false)) := by
  refine calls_of_CW Try.func15 rfl (n := 13) Try.ntmps15 (by kernel_rfl) [0, 1] (F := [(0, .slice ad1 m1 cap1), (1, .slice ad2 m2 cap2)]) (by kernel_rfl) ?_
  refine CW.seq fun K1 hK1 => ?_
  refine CW.region ?_
  refine WR.box (dst := some 2) (e := 22) (v := .slice ad1 m1 cap1) (by kernel_rfl) #[.slice ad1 m1 cap1] (by kernel_rfl) ?_
  intro g2 w3 hN4
  have hf6 : w.heap.size ≤ g2 := hN4.fresh
  have hfr8 := hN4.fresh
  have hc7 := hN4.chg
  have hz10 := hc7.size
  have hC9 := (Chg.refl [] w).pure hc7
  have hb5 := hN4.blk
  have hg11 := hb5.lt
  refine WR.box (dst := some 3) (e := 22) (v := .slice ad2 m2 cap2) (by kernel_rfl) #[.slice ad2 m2 cap2] (by kernel_rfl) ?_
  intro g12 w13 hN14
  have hl17 : g2 < g12 := Nat.lt_of_lt_of_le hb5.lt hN14.fresh
  have hf16 : w.heap.size ≤ g12 := Nat.le_trans hC9.size hN14.fresh
  have hfr19 := hN14.fresh
  have hc18 := hN14.chg
  have hz21 := hc18.size
  have hC20 := hC9.pure hc18
  have hb22 := hb5.pure hc18
  have hb15 := hN14.blk
  have hg23 := hb15.lt
  refine WR.batch 1 [(2, .pointer (some ⟨g2, 0, none⟩)), (3, .pointer (some ⟨g12, 0, none⟩))] (by kernel_rfl) ?_
  refine WR.fin (by kernel_rfl) ?_
  refine go hK1 ?_
  refine CW.seq fun K24 hK24 => ?_
  refine CW.region ?_
  refine WR.batch 1 [(8, .func (.func 33) #[] #[.pointer (some ⟨g2, 0, none⟩), .pointer (some ⟨g12, 0, none⟩)])] (by kernel_rfl) ?_
  refine WR.call (dst := some 9) (by kernel_rfl) (tried_Within_pan g2 g12 x w13 (fun w1 h1 => hc g2 g12 w1 (hC20.pure h1) (hb22.pure h1) (hb15.pure h1))) ?_
  rintro _ w25 hc26 rfl
  have hz28 := hc26.size
  have hC27 := hC20.pure hc26
  have hb29 := hb22.pure hc26
  have hb30 := hb15.pure hc26
  refine WR.batch 5 [(5, .bool false)] (by kernel_rfl) ?_
  refine WR.fin (by kernel_rfl) ?_
  refine go hK24 ?_
  refine CW.seq fun K31 hK31 => ?_
  refine CW.region ?_
  refine WR.batch 2 [(4, .bool false)] (by kernel_rfl) ?_
  refine WR.fin (by kernel_rfl) ?_
  refine go hK31 ?_
  refine CW.ret ?_
  exact retV (.bool false) (by kernel_rfl) ⟨hC27, rfl⟩

theorem Within_fine (ad1 ad2 : Option Addr) (m1 m2 cap1 cap2 : Nat) (l : Bool) (w : World) (hc : ∀ c0_ c1_ w', Chg [] w w' → Blk w' c0_ #[.slice ad1 m1 cap1] 22 → Blk w' c1_ #[.slice ad2 m2 cap2] 22 → Calls Try.prog 33 #[.pointer (some ⟨c0_, 0, none⟩), .pointer (some ⟨c1_, 0, none⟩)] w' (RetV w' (.bool l)))  : Calls Try.prog 15 #[.slice ad1 m1 cap1, .slice ad2 m2 cap2] w (RetV w (.bool l)) := by
  refine calls_of_CW Try.func15 rfl (n := 13) Try.ntmps15 (by kernel_rfl) [0, 1] (F := [(0, .slice ad1 m1 cap1), (1, .slice ad2 m2 cap2)]) (by kernel_rfl) ?_
  refine CW.seq fun K1 hK1 => ?_
  refine CW.region ?_
  refine WR.box (dst := some 2) (e := 22) (v := .slice ad1 m1 cap1) (by kernel_rfl) #[.slice ad1 m1 cap1] (by kernel_rfl) ?_
  intro g2 w3 hN4
  have hf6 : w.heap.size ≤ g2 := hN4.fresh
  have hfr8 := hN4.fresh
  have hc7 := hN4.chg
  have hz10 := hc7.size
  have hC9 := (Chg.refl [] w).pure hc7
  have hb5 := hN4.blk
  have hg11 := hb5.lt
  refine WR.box (dst := some 3) (e := 22) (v := .slice ad2 m2 cap2) (by kernel_rfl) #[.slice ad2 m2 cap2] (by kernel_rfl) ?_
  intro g12 w13 hN14
  have hl17 : g2 < g12 := Nat.lt_of_lt_of_le hb5.lt hN14.fresh
  have hf16 : w.heap.size ≤ g12 := Nat.le_trans hC9.size hN14.fresh
  have hfr19 := hN14.fresh
  have hc18 := hN14.chg
  have hz21 := hc18.size
  have hC20 := hC9.pure hc18
  have hb22 := hb5.pure hc18
  have hb15 := hN14.blk
  have hg23 := hb15.lt
  refine WR.batch 1 [(2, .pointer (some ⟨g2, 0, none⟩)), (3, .pointer (some ⟨g12, 0, none⟩))] (by kernel_rfl) ?_
  refine WR.fin (by kernel_rfl) ?_
  refine go hK1 ?_
  refine CW.seq fun K24 hK24 => ?_
  refine CW.region ?_
  refine WR.batch 1 [(8, .func (.func 33) #[] #[.pointer (some ⟨g2, 0, none⟩), .pointer (some ⟨g12, 0, none⟩)])] (by kernel_rfl) ?_
  refine WR.call (dst := some 9) (by kernel_rfl) (tried_Within_ok g2 g12 l w13 (fun w1 h1 => hc g2 g12 w1 (hC20.pure h1) (hb22.pure h1) (hb15.pure h1))) ?_
  rintro _ w25 hc26 rfl
  have hz28 := hc26.size
  have hC27 := hC20.pure hc26
  have hb29 := hb22.pure hc26
  have hb30 := hb15.pure hc26
  refine WR.batch 5 [(5, .bool l)] (by kernel_rfl) ?_
  refine WR.fin (by kernel_rfl) ?_
  refine go hK24 ?_
  refine CW.seq fun K31 hK31 => ?_
  refine CW.region ?_
  refine WR.batch 2 [(4, .bool l)] (by kernel_rfl) ?_
  refine WR.fin (by kernel_rfl) ?_
  refine go hK31 ?_
  refine CW.ret ?_
  exact retV (.bool l) (by kernel_rfl) ⟨hC27, rfl⟩

theorem row512 {w : World} {ad : Option Addr} {xs : List Bool} (h : Rg w ad (bo xs)) (hl : xs.length = 512) : ∃ b o, ad = some ⟨b, o, none⟩ := ⟨_, _, (h 0 _ (getMap _ xs 0 false (by omega))).1⟩
theorem Set_any (ad : Option Addr) (cap : Nat) (xs : List Bool) (at_ size : Int) (w : World) (hr : Rg w ad (bo xs)) : Calls Try.prog 9 #[.slice ad xs.length cap, .int .i64 at_, .int .i64 size] w (Ret [] w fun v w' => ∃ ad cap e, v = .tuple #[.slice ad (setL xs at_ size).length cap, .int .i64 (placeE xs.length at_ size)] ∧ Own w' w.heap.size e 1 ad (setL xs at_ size).length cap (bo (setL xs at_ size))) := by
  have bad : ∀ x : Int, x ≠ 0 → placeE xs.length at_ size = x → Calls Try.prog 9 #[.slice ad xs.length cap, .int .i64 at_, .int .i64 size] w (RetV w (.tuple #[.slice none 0 0, .int .i64 x])) → Calls Try.prog 9 #[.slice ad xs.length cap, .int .i64 at_, .int .i64 size] w (Ret [] w fun v w' => ∃ ad cap e, v = .tuple #[.slice ad (setL xs at_ size).length cap, .int .i64 (placeE xs.length at_ size)] ∧ Own w' w.heap.size e 1 ad (setL xs at_ size).length cap (bo (setL xs at_ size))) := by
    intro x hx he h
    refine h.mono ?_
    intro e w' h
    cases e with
    | returned v => obtain ⟨h1, rfl⟩ := h; refine ⟨h1, none, 0, 0, ?_, ?_⟩; rw [he, setL_no (by omega)]; rfl; rw [setL_no (by omega)]; exact Own.nil _ _ _ _
    | panicked ch => exact h.elim
    | outgrown => exact h
  by_cases hl : xs.length = 512
  · obtain ⟨b, o, rfl⟩ := row512 hr hl
    by_cases hs : size = 1 ∨ size = 2 ∨ size = 4 ∨ size = 8
    · by_cases hp : at_ < -512 ∨ at_ > -size
      · refine bad 112 (by decide) (by unfold placeE; rw [if_neg (by omega), if_pos hp]) (Set_pan _ _ _ _ _ _ _ fun g0 g1 g2 w' hc h0 h1 h2 => ?_)
        rw [hl] at h0
        exact Set1_at g0 g1 g2 b o cap xs at_ size w' h0 h1 h2 (hr.pure hc) hl hs hp
      · have h0 : placeE xs.length at_ size = 0 := by unfold placeE; rw [if_neg (by omega), if_neg hp]
        refine (Set_fine _ _ _ _ _ (setL xs at_ size) _ fun g0 g1 g2 w' hc hb0 hb1 hb2 => ?_).mono ?_
        · rw [hl] at hb0
          exact Set1_ok g0 g1 g2 b o cap xs at_ size w' hb0 hb1 hb2 (hr.pure hc) hl h0
        · rw [h0]; exact fun _ _ h => h
    · refine bad 2 (by decide) (by unfold placeE; rw [if_pos (by omega)]) (Set_pan _ _ _ _ _ _ _ fun g0 g1 g2 w' hc h0 h1 h2 => ?_)
      rw [hl] at h0
      exact Set1_size g0 g1 g2 b o cap xs at_ size w' h0 h1 h2 (hr.pure hc) hl hs
  · refine bad 2 (by decide) (by unfold placeE; rw [if_pos (by omega)]) (Set_pan _ _ _ _ _ _ _ fun g0 g1 g2 w' hc h0 h1 h2 => ?_)
    exact Set1_len g0 g1 g2 ad cap xs at_ size w' h0 h1 h2 hl
theorem Read_any (ad : Option Addr) (cap : Nat) (xs : List Bool) (at_ size : Int) (w : World) (hr : Rg w ad (bo xs)) : Calls Try.prog 13 #[.slice ad xs.length cap, .int .i64 at_, .int .i64 size] w (RetV w (.int .i64 (readE xs at_ size))) := by
  by_cases hl : xs.length = 512
  · obtain ⟨b, o, rfl⟩ := row512 hr hl
    by_cases hs : size = 1 ∨ size = 2 ∨ size = 4 ∨ size = 8
    · by_cases hp : at_ < -512 ∨ at_ > -size
      · have e : readE xs at_ size = 112 := by
          have : placeE xs.length at_ size = 112 := by unfold placeE; rw [if_neg (by omega), if_pos hp]
          rw [readE_no (by omega), this]
        rw [e]
        refine Read_pan _ _ _ _ _ _ _ fun g0 g1 g2 w' hc h0 h1 h2 => ?_
        rw [hl] at h0
        exact Read1_at g0 g1 g2 b o cap xs at_ size w' h0 h1 h2 (hr.pure hc) hl hs hp
      · have h0 : placeE xs.length at_ size = 0 := by unfold placeE; rw [if_neg (by omega), if_neg hp]
        cases hy : allB xs (at_ + 512).toNat size.toNat with
        | true =>
          have e : readE xs at_ size = 0 := by unfold readE; rw [if_neg (by omega), if_pos hy]
          rw [e]
          refine Read_fine _ _ _ _ _ true _ fun g0 g1 g2 w' hc hb0 hb1 hb2 => ?_
          rw [hl] at hb0
          exact Read1_ok g0 g1 g2 b o cap xs at_ size w' hb0 hb1 hb2 (hr.pure hc) hl h0 hy
        | false =>
          have e : readE xs at_ size = 110 := by unfold readE; rw [if_neg (by omega), if_neg (by rw [hy]; decide)]
          rw [e]
          refine Read_pan _ _ _ _ _ _ _ fun g0 g1 g2 w' hc hb0 hb1 hb2 => ?_
          rw [hl] at hb0
          exact Read1_unset g0 g1 g2 b o cap xs at_ size w' hb0 hb1 hb2 (hr.pure hc) hl h0 hy
    · have e : readE xs at_ size = 2 := by
        have : placeE xs.length at_ size = 2 := by unfold placeE; rw [if_pos (by omega)]
        rw [readE_no (by omega), this]
      rw [e]
      refine Read_pan _ _ _ _ _ _ _ fun g0 g1 g2 w' hc h0 h1 h2 => ?_
      rw [hl] at h0
      exact Read1_size g0 g1 g2 b o cap xs at_ size w' h0 h1 h2 (hr.pure hc) hl hs
  · have e : readE xs at_ size = 2 := by
      have : placeE xs.length at_ size = 2 := by unfold placeE; rw [if_pos (by omega)]
      rw [readE_no (by omega), this]
    rw [e]
    refine Read_pan _ _ _ _ _ _ _ fun g0 g1 g2 w' hc h0 h1 h2 => ?_
    exact Read1_len g0 g1 g2 ad cap xs at_ size w' h0 h1 h2 hl
theorem Within_any (ad1 ad2 : Option Addr) (cap1 cap2 : Nat) (xs ys : List Bool) (w : World) (h1 : Rg w ad1 (bo xs)) (h2 : Rg w ad2 (bo ys)) : Calls Try.prog 15 #[.slice ad1 xs.length cap1, .slice ad2 ys.length cap2] w (RetV w (.bool (withinE xs ys))) := by
  by_cases hl : xs.length = 512
  · obtain ⟨b, o, rfl⟩ := row512 h1 hl
    by_cases hk : ys.length = 512
    · obtain ⟨b', o', rfl⟩ := row512 h2 hk
      refine Within_fine _ _ _ _ _ _ (withinE xs ys) _ fun g0 g1 w' hc hb0 hb1 => ?_
      rw [hl] at hb0; rw [hk] at hb1
      exact Within1_ok g0 g1 b o cap1 xs b' o' cap2 ys w' hb0 hb1 (h1.pure hc) hl (h2.pure hc) hk
    · rw [withinE_no (.inr (by omega))]
      refine Within_pan _ _ _ _ _ _ 2 _ fun g0 g1 w' hc hb0 hb1 => ?_
      rw [hl] at hb0
      exact Within1_10 g0 g1 b o cap1 xs ad2 cap2 ys w' hb0 hb1 (h1.pure hc) hl hk
  · rw [withinE_no (.inl (by omega))]
    refine Within_pan _ _ _ _ _ _ 2 _ fun g0 g1 w' hc hb0 hb1 => ?_
    by_cases hk : ys.length = 512
    · obtain ⟨b', o', rfl⟩ := row512 h2 hk
      rw [hk] at hb1
      exact Within1_01 g0 g1 ad1 cap1 xs b' o' cap2 ys w' hb0 hb1 hl (h2.pure hc) hk
    · exact Within1_00 g0 g1 ad1 cap1 xs ad2 cap2 ys w' hb0 hb1 hl hk
theorem Join_any (ad1 ad2 : Option Addr) (cap1 cap2 : Nat) (xs ys : List Bool) (w : World) (h1 : Rg w ad1 (bo xs)) (h2 : Rg w ad2 (bo ys)) : Calls Try.prog 11 #[.slice ad1 xs.length cap1, .slice ad2 ys.length cap2] w (Ret [] w fun v w' => OwnB w.heap.size (joinL xs ys) v w') := by
  have bad : ((xs.length : Int) ≠ 512 ∨ (ys.length : Int) ≠ 512) → Calls Try.prog 11 #[.slice ad1 xs.length cap1, .slice ad2 ys.length cap2] w (RetV w (.slice none 0 0)) → Calls Try.prog 11 #[.slice ad1 xs.length cap1, .slice ad2 ys.length cap2] w (Ret [] w fun v w' => OwnB w.heap.size (joinL xs ys) v w') := by
    intro hx h
    refine h.mono ?_
    intro e w' h
    cases e with
    | returned v => obtain ⟨h1, rfl⟩ := h; rw [joinL_no hx]; exact ⟨h1, none, 0, 0, rfl, Own.nil _ _ _ _⟩
    | panicked ch => exact h.elim
    | outgrown => exact h
  by_cases hl : xs.length = 512
  · obtain ⟨b, o, rfl⟩ := row512 h1 hl
    by_cases hk : ys.length = 512
    · obtain ⟨b', o', rfl⟩ := row512 h2 hk
      refine Join_fine _ _ _ _ _ _ (joinL xs ys) _ fun g0 g1 w' hc hb0 hb1 => ?_
      rw [hl] at hb0; rw [hk] at hb1
      exact Join1_ok g0 g1 b o cap1 xs b' o' cap2 ys w' hb0 hb1 (h1.pure hc) hl (h2.pure hc) hk
    · refine bad (.inr (by omega)) (Join_pan _ _ _ _ _ _ 2 _ fun g0 g1 w' hc hb0 hb1 => ?_)
      rw [hl] at hb0
      exact Join1_10 g0 g1 b o cap1 xs ad2 cap2 ys w' hb0 hb1 (h1.pure hc) hl hk
  · refine bad (.inl (by omega)) (Join_pan _ _ _ _ _ _ 2 _ fun g0 g1 w' hc hb0 hb1 => ?_)
    by_cases hk : ys.length = 512
    · obtain ⟨b', o', rfl⟩ := row512 h2 hk
      rw [hk] at hb1
      exact Join1_01 g0 g1 ad1 cap1 xs b' o' cap2 ys w' hb0 hb1 hl (h2.pure hc) hk
    · exact Join1_00 g0 g1 ad1 cap1 xs ad2 cap2 ys w' hb0 hb1 hl hk

theorem New_any (w : World) : Calls Try.prog 18 #[] w (Ret [] w fun v w' => OwnB w.heap.size newL v w') := by
  refine calls_of_CW Try.func18 rfl (n := 2) Try.ntmps18 (by kernel_rfl) [] (F := []) (by kernel_rfl) ?_
  refine CW.seq fun K1 hK1 => ?_
  refine CW.region ?_
  refine WR.batch 1 [] (by kernel_rfl) ?_
  refine WR.fin (by kernel_rfl) ?_
  refine go hK1 ?_
  refine CW.seq fun K2 hK2 => ?_
  refine CW.region ?_
  refine WR.make (dst := some 1) (t := 22) (e := 4) (kl := .i64) (kc := .i64) (l := (512 : Int)) (c := (512 : Int)) (sz := 1) (by_ := 1) (zc := #[.bool false]) (by kernel_rfl) (by kernel_rfl) (512) (512) (by omega) (by omega) (by omega) (by omega) (by omega) ?_
  intro g3 w4 hN5
  have hf7 := hN5.fresh
  have hc8 := hN5.chg
  have hz10 := hc8.size
  have hC9 := (Chg.refl [] w).pure hc8
  have ho6 : Own w4 w.heap.size 4 1 (some ⟨g3, 0, none⟩) (512) (512) (bo (List.replicate (512) false)) := by rw [boRep, ← made1 _ _ (512) (by omega)]; exact Own.made hN5 (m := 512) (by omega) (by omega)
  refine WR.batch 1 [(0, .slice (some ⟨g3, 0, none⟩) 512 512)] (by kernel_rfl) ?_
  refine WR.fin (by kernel_rfl) ?_
  refine go hK2 ?_
  refine CW.ret ?_
  exact retV (.slice (some ⟨g3, 0, none⟩) 512 512) (by kernel_rfl) ⟨hC9, ⟨(some ⟨g3, 0, none⟩), 512, _, by rw [newL_len], by rw [newL_len]; exact ho6⟩⟩
end Go.V
