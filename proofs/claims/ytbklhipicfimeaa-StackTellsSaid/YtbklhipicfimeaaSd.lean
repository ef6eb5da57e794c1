import Derived.Test.YtbklhipicfimeaaProg
import Derived.Test.YtbklhipicfimeaaSc
import Derived.Test.YtbklhipicfimeaaDf
namespace Go.V
open Go.RowKit Go.Proofs
theorem tried_Set_pan (c0_ c1_ c2_ : Nat) (x : Int) (w : World) (hc : ∀ w', Chg [] w w' → Calls Try.prog 26 #[.pointer (some ⟨c0_, 0, none⟩), .pointer (some ⟨c1_, 0, none⟩), .pointer (some ⟨c2_, 0, none⟩)] w' (Pan w' (.iface 25 (.int .i64 x)))) : Calls Try.prog 25 #[.func (.func 26) #[] #[.pointer (some ⟨c0_, 0, none⟩), .pointer (some ⟨c1_, 0, none⟩), .pointer (some ⟨c2_, 0, none⟩)]] w (RetV w (.tuple #[.slice none 0 0, .int .i64 x])) := by
  refine calls_of_CW_defers Try.func25 rfl (n := 7) Try.ntmps25 (by kernel_rfl) [0] (F := [(0, .func (.func 26) #[] #[.pointer (some ⟨c0_, 0, none⟩), .pointer (some ⟨c1_, 0, none⟩), .pointer (some ⟨c2_, 0, none⟩)])]) (by kernel_rfl) ?_
  refine CW.seq fun K1 hK1 => ?_
  refine CW.region ?_
  refine WR.batch 1 [(0, .func (.func 26) #[] #[.pointer (some ⟨c0_, 0, none⟩), .pointer (some ⟨c1_, 0, none⟩), .pointer (some ⟨c2_, 0, none⟩)]), (2, .slice none 0 0)] (by kernel_rfl) ?_
  refine WR.alloc (dst := some 3) (e := 25) (by kernel_rfl) #[.int .i64 (0 : Int)] (by kernel_rfl) ?_
  intro g2 w3 hN4
  have hf6 : w.heap.size ≤ g2 := hN4.fresh
  have hc7 := hN4.chg
  have hz9 := hc7.size
  have hC8 := (Chg.refl [] w).pure hc7
  have hb5 := hN4.blk
  have hg10 := hb5.lt
  refine WR.fin (by kernel_rfl) ?_
  refine go hK1 ?_
  refine CW.seq fun K11 hK11 => ?_
  refine CW.region ?_
  refine WR.batch 1 [(0, .func (.func 26) #[] #[.pointer (some ⟨c0_, 0, none⟩), .pointer (some ⟨c1_, 0, none⟩), .pointer (some ⟨c2_, 0, none⟩)]), (2, .slice none 0 0), (3, .pointer (some ⟨g2, 0, none⟩)), (4, .func (.func 34) #[] #[.pointer (some ⟨g2, 0, none⟩)])] (by kernel_rfl) ?_
  refine WR.defer (dst := none) (d := { target := .fn (.func 34) #[.pointer (some ⟨g2, 0, none⟩)], args := #[] }) (by kernel_rfl) ?_
  refine WR.fin (by kernel_rfl) ?_
  refine go hK11 ?_
  refine CW.seq fun K12 hK12 => ?_
  refine CW.region ?_
  refine WR.batch 1 [(2, .slice none 0 0), (3, .pointer (some ⟨g2, 0, none⟩)), (5, .func (.func 26) #[] #[.pointer (some ⟨c0_, 0, none⟩), .pointer (some ⟨c1_, 0, none⟩), .pointer (some ⟨c2_, 0, none⟩)])] (by kernel_rfl) ?_
  refine WR.callX (dst := some 6) (by kernel_rfl) (hc w3 hC8) ?_
  intro w13 hc14
  have hz16 := hc14.size
  have hC15 := hC8.pure hc14
  have hb17 := hb5.pure hc14
  exact panicD (P := Try.prog) (fn := Try.f25) (d := { target := .fn (.func 34) #[.pointer (some ⟨g2, 0, none⟩)], args := #[] }) (fv := .func 34) (cap := #[.pointer (some ⟨g2, 0, none⟩)]) (f := 34) (args := #[.pointer (some ⟨g2, 0, none⟩)]) (M := fun w1 => Chg [g2] w13 w1 ∧ Blk w1 g2 #[.int .i64 x] 25) (x := .iface 25 (.int .i64 x)) rfl (by kernel_rfl) (tb_pan g2 x w13 hb17) (fun _ => [.slice none 0 0, .int .i64 x]) (fun w1 hM => ⟨rfl, ⟨⟨g2, 0, none⟩, rfl, run_loadVar_ldv (hM.2) (by kernel_rfl)⟩, trivial⟩) (fun w1 hM => ⟨(hC15).step hM.1 (by intro t ht; simp only [List.mem_cons, List.not_mem_nil, or_false] at ht; subst ht; exact .inr (by omega)), rfl⟩)

theorem tried_Set_ok (c0_ c1_ c2_ : Nat) (l : List Bool) (w : World) (hc : ∀ w', Chg [] w w' → Calls Try.prog 26 #[.pointer (some ⟨c0_, 0, none⟩), .pointer (some ⟨c1_, 0, none⟩), .pointer (some ⟨c2_, 0, none⟩)] w' (Ret [] w' fun v w1 => OwnB w'.heap.size l v w1)) : Calls Try.prog 25 #[.func (.func 26) #[] #[.pointer (some ⟨c0_, 0, none⟩), .pointer (some ⟨c1_, 0, none⟩), .pointer (some ⟨c2_, 0, none⟩)]] w (Ret [] w fun v w' => ∃ ad cap e, v = .tuple #[.slice ad l.length cap, .int .i64 0] ∧ Own w' w.heap.size e 1 ad l.length cap (bo l)) := by
  refine calls_of_CW_defers Try.func25 rfl (n := 7) Try.ntmps25 (by kernel_rfl) [0] (F := [(0, .func (.func 26) #[] #[.pointer (some ⟨c0_, 0, none⟩), .pointer (some ⟨c1_, 0, none⟩), .pointer (some ⟨c2_, 0, none⟩)])]) (by kernel_rfl) ?_
  refine CW.seq fun K1 hK1 => ?_
  refine CW.region ?_
  refine WR.batch 1 [(0, .func (.func 26) #[] #[.pointer (some ⟨c0_, 0, none⟩), .pointer (some ⟨c1_, 0, none⟩), .pointer (some ⟨c2_, 0, none⟩)]), (2, .slice none 0 0)] (by kernel_rfl) ?_
  refine WR.alloc (dst := some 3) (e := 25) (by kernel_rfl) #[.int .i64 (0 : Int)] (by kernel_rfl) ?_
  intro g2 w3 hN4
  have hf6 : w.heap.size ≤ g2 := hN4.fresh
  have hc7 := hN4.chg
  have hz9 := hc7.size
  have hC8 := (Chg.refl [] w).pure hc7
  have hb5 := hN4.blk
  have hg10 := hb5.lt
  refine WR.fin (by kernel_rfl) ?_
  refine go hK1 ?_
  refine CW.seq fun K11 hK11 => ?_
  refine CW.region ?_
  refine WR.batch 1 [(0, .func (.func 26) #[] #[.pointer (some ⟨c0_, 0, none⟩), .pointer (some ⟨c1_, 0, none⟩), .pointer (some ⟨c2_, 0, none⟩)]), (2, .slice none 0 0), (3, .pointer (some ⟨g2, 0, none⟩)), (4, .func (.func 34) #[] #[.pointer (some ⟨g2, 0, none⟩)])] (by kernel_rfl) ?_
  refine WR.defer (dst := none) (d := { target := .fn (.func 34) #[.pointer (some ⟨g2, 0, none⟩)], args := #[] }) (by kernel_rfl) ?_
  refine WR.fin (by kernel_rfl) ?_
  refine go hK11 ?_
  refine CW.seq fun K12 hK12 => ?_
  refine CW.region ?_
  refine WR.batch 1 [(2, .slice none 0 0), (3, .pointer (some ⟨g2, 0, none⟩)), (5, .func (.func 26) #[] #[.pointer (some ⟨c0_, 0, none⟩), .pointer (some ⟨c1_, 0, none⟩), .pointer (some ⟨c2_, 0, none⟩)])] (by kernel_rfl) ?_
  refine WR.call (dst := some 6) (by kernel_rfl) (hc w3 hC8) ?_
  rintro _ w17 hc18 ⟨ad13, cap14, e15, rfl, ho16⟩
  have hz20 := hc18.size
  have hC19 := hC8.pure hc18
  have hb21 := hb5.pure hc18
  refine WR.batch 1 [(2, .slice ad13 l.length cap14), (3, .pointer (some ⟨g2, 0, none⟩))] (by kernel_rfl) ?_
  refine WR.store (t := 25) (o := 0) (v := .int .i64 (0 : Int)) hb21 (by kernel_rfl) #[.int .i64 (0 : Int)] (by kernel_rfl) ?_
  intro w22 hb23 hc24
  have hz26 := hc24.size
  have hC25 := hC19.step hc24 (by intro t ht; simp only [List.mem_cons, List.not_mem_nil, or_false] at ht; subst ht; first | exact .inr (by omega) | exact .inl (by simp))
  have ho27 := ho16.chg hc24 (by exact ho16.off1 (.inl (by omega)))
  refine WR.fin (by kernel_rfl) ?_
  refine go hK12 ?_
  refine CW.ret ?_
  exact retD (P := Try.prog) (fn := Try.f25) (d := { target := .fn (.func 34) #[.pointer (some ⟨g2, 0, none⟩)], args := #[] }) (fv := .func 34) (cap := #[.pointer (some ⟨g2, 0, none⟩)]) (f := 34) (args := #[.pointer (some ⟨g2, 0, none⟩)]) (M := fun w1 => Chg [] w22 w1) rfl (by kernel_rfl) (tb_ret g2 w22) (fun _ => [.slice ad13 l.length cap14, .int .i64 (0 : Int)]) (fun w1 hM => ⟨rfl, ⟨⟨g2, 0, none⟩, rfl, run_loadVar_ldv (hb23.pure hM) (by kernel_rfl)⟩, trivial⟩) (fun w1 hM => ⟨(hC25).pure hM, ⟨_, _, _, rfl, (ho27.weak (by omega)).pure hM⟩⟩)

theorem Set_pan (ad : Option Addr) (m cap : Nat) (at_ size : Int) (x : Int) (w : World) (hc : ∀ c0_ c1_ c2_ w', Chg [] w w' → Blk w' c0_ #[.slice ad m cap] 22 → Blk w' c1_ #[.int .i64 at_] 2 → Blk w' c2_ #[.int .i64 size] 3 → Calls Try.prog 26 #[.pointer (some ⟨c0_, 0, none⟩), .pointer (some ⟨c1_, 0, none⟩), .pointer (some ⟨c2_, 0, none⟩)] w' (Pan w' (.iface 25 (.int .i64 x))))  : Calls Try.prog 9 #[.slice ad m cap, .int .i64 at_, .int .i64 size] w (RetV w (.tuple #[.slice none 0 0, .int .i64 x])) := by
  refine calls_of_CW Try.func9 rfl (n := 12) Try.ntmps9 (by kernel_rfl) [0, 1, 2] (F := [(0, .slice ad m cap), (1, .int .i64 at_), (2, .int .i64 size)]) (by kernel_rfl) ?_
  refine CW.seq fun K1 hK1 => ?_
  refine CW.region ?_
  refine WR.box (dst := some 3) (e := 22) (v := .slice ad m cap) (by kernel_rfl) #[.slice ad m cap] (by kernel_rfl) ?_
  intro g2 w3 hN4
  have hf6 : w.heap.size ≤ g2 := hN4.fresh
  have hc7 := hN4.chg
  have hz9 := hc7.size
  have hC8 := (Chg.refl [] w).pure hc7
  have hb5 := hN4.blk
  have hg10 := hb5.lt
  refine WR.box (dst := some 4) (e := 2) (v := .int .i64 at_) (by kernel_rfl) #[.int .i64 at_] (by kernel_rfl) ?_
  intro g11 w12 hN13
  have hl16 : g2 < g11 := Nat.lt_of_lt_of_le hb5.lt hN13.fresh
  have hf15 : w.heap.size ≤ g11 := Nat.le_trans hC8.size hN13.fresh
  have hc17 := hN13.chg
  have hz19 := hc17.size
  have hC18 := hC8.pure hc17
  have hb20 := hb5.pure hc17
  have hb14 := hN13.blk
  have hg21 := hb14.lt
  refine WR.box (dst := some 5) (e := 3) (v := .int .i64 size) (by kernel_rfl) #[.int .i64 size] (by kernel_rfl) ?_
  intro g22 w23 hN24
  have hl27 : g2 < g22 := Nat.lt_of_lt_of_le hb20.lt hN24.fresh
  have hl28 : g11 < g22 := Nat.lt_of_lt_of_le hb14.lt hN24.fresh
  have hf26 : w.heap.size ≤ g22 := Nat.le_trans hC18.size hN24.fresh
  have hc29 := hN24.chg
  have hz31 := hc29.size
  have hC30 := hC18.pure hc29
  have hb32 := hb20.pure hc29
  have hb33 := hb14.pure hc29
  have hb25 := hN24.blk
  have hg34 := hb25.lt
  refine WR.batch 2 [(3, .pointer (some ⟨g2, 0, none⟩)), (4, .pointer (some ⟨g11, 0, none⟩)), (5, .pointer (some ⟨g22, 0, none⟩))] (by kernel_rfl) ?_
  refine WR.fin (by kernel_rfl) ?_
  refine go hK1 ?_
  refine CW.seq fun K35 hK35 => ?_
  refine CW.region ?_
  refine WR.batch 1 [(8, .func (.func 26) #[] #[.pointer (some ⟨g2, 0, none⟩), .pointer (some ⟨g11, 0, none⟩), .pointer (some ⟨g22, 0, none⟩)])] (by kernel_rfl) ?_
  refine WR.call (dst := some 9) (by kernel_rfl) (tried_Set_pan g2 g11 g22 x w23 (fun w1 h1 => hc g2 g11 g22 w1 (hC30.pure h1) (hb32.pure h1) (hb33.pure h1) (hb25.pure h1))) ?_
  rintro _ w36 hc37 rfl
  have hz39 := hc37.size
  have hC38 := hC30.pure hc37
  have hb40 := hb32.pure hc37
  have hb41 := hb33.pure hc37
  have hb42 := hb25.pure hc37
  refine WR.batch 4 [(6, .slice none 0 0), (7, .int .i64 x)] (by kernel_rfl) ?_
  refine WR.fin (by kernel_rfl) ?_
  refine go hK35 ?_
  refine CW.ret ?_
  exact retV (.tuple #[.slice none 0 0, .int .i64 x]) (by kernel_rfl) ⟨hC38, rfl⟩

theorem Set_fine (ad : Option Addr) (m cap : Nat) (at_ size : Int) (l : List Bool) (w : World) (hc : ∀ c0_ c1_ c2_ w', Chg [] w w' → Blk w' c0_ #[.slice ad m cap] 22 → Blk w' c1_ #[.int .i64 at_] 2 → Blk w' c2_ #[.int .i64 size] 3 → Calls Try.prog 26 #[.pointer (some ⟨c0_, 0, none⟩), .pointer (some ⟨c1_, 0, none⟩), .pointer (some ⟨c2_, 0, none⟩)] w' (Ret [] w' fun v w1 => OwnB w'.heap.size l v w1))  : Calls Try.prog 9 #[.slice ad m cap, .int .i64 at_, .int .i64 size] w (Ret [] w fun v w' => ∃ ad cap e, v = .tuple #[.slice ad l.length cap, .int .i64 0] ∧ Own w' w.heap.size e 1 ad l.length cap (bo l)) := by
  refine calls_of_CW Try.func9 rfl (n := 12) Try.ntmps9 (by kernel_rfl) [0, 1, 2] (F := [(0, .slice ad m cap), (1, .int .i64 at_), (2, .int .i64 size)]) (by kernel_rfl) ?_
  refine CW.seq fun K1 hK1 => ?_
  refine CW.region ?_
  refine WR.box (dst := some 3) (e := 22) (v := .slice ad m cap) (by kernel_rfl) #[.slice ad m cap] (by kernel_rfl) ?_
  intro g2 w3 hN4
  have hf6 : w.heap.size ≤ g2 := hN4.fresh
  have hc7 := hN4.chg
  have hz9 := hc7.size
  have hC8 := (Chg.refl [] w).pure hc7
  have hb5 := hN4.blk
  have hg10 := hb5.lt
  refine WR.box (dst := some 4) (e := 2) (v := .int .i64 at_) (by kernel_rfl) #[.int .i64 at_] (by kernel_rfl) ?_
  intro g11 w12 hN13
  have hl16 : g2 < g11 := Nat.lt_of_lt_of_le hb5.lt hN13.fresh
  have hf15 : w.heap.size ≤ g11 := Nat.le_trans hC8.size hN13.fresh
  have hc17 := hN13.chg
  have hz19 := hc17.size
  have hC18 := hC8.pure hc17
  have hb20 := hb5.pure hc17
  have hb14 := hN13.blk
  have hg21 := hb14.lt
  refine WR.box (dst := some 5) (e := 3) (v := .int .i64 size) (by kernel_rfl) #[.int .i64 size] (by kernel_rfl) ?_
  intro g22 w23 hN24
  have hl27 : g2 < g22 := Nat.lt_of_lt_of_le hb20.lt hN24.fresh
  have hl28 : g11 < g22 := Nat.lt_of_lt_of_le hb14.lt hN24.fresh
  have hf26 : w.heap.size ≤ g22 := Nat.le_trans hC18.size hN24.fresh
  have hc29 := hN24.chg
  have hz31 := hc29.size
  have hC30 := hC18.pure hc29
  have hb32 := hb20.pure hc29
  have hb33 := hb14.pure hc29
  have hb25 := hN24.blk
  have hg34 := hb25.lt
  refine WR.batch 2 [(3, .pointer (some ⟨g2, 0, none⟩)), (4, .pointer (some ⟨g11, 0, none⟩)), (5, .pointer (some ⟨g22, 0, none⟩))] (by kernel_rfl) ?_
  refine WR.fin (by kernel_rfl) ?_
  refine go hK1 ?_
  refine CW.seq fun K35 hK35 => ?_
  refine CW.region ?_
  refine WR.batch 1 [(8, .func (.func 26) #[] #[.pointer (some ⟨g2, 0, none⟩), .pointer (some ⟨g11, 0, none⟩), .pointer (some ⟨g22, 0, none⟩)])] (by kernel_rfl) ?_
  refine WR.call (dst := some 9) (by kernel_rfl) (tried_Set_ok g2 g11 g22 l w23 (fun w1 h1 => hc g2 g11 g22 w1 (hC30.pure h1) (hb32.pure h1) (hb33.pure h1) (hb25.pure h1))) ?_
  rintro _ w40 hc41 ⟨ad36, cap37, e38, rfl, ho39⟩
  have hz43 := hc41.size
  have hC42 := hC30.pure hc41
  have hb44 := hb32.pure hc41
  have hb45 := hb33.pure hc41
  have hb46 := hb25.pure hc41
  refine WR.batch 4 [(6, .slice ad36 l.length cap37), (7, .int .i64 (0 : Int))] (by kernel_rfl) ?_
  refine WR.fin (by kernel_rfl) ?_
  refine go hK35 ?_
  refine CW.ret ?_
  exact retV (.tuple #[.slice ad36 l.length cap37, .int .i64 (0 : Int)]) (by kernel_rfl) ⟨hC42, ⟨_, _, _, rfl, ho39.weak (by omega)⟩⟩

theorem tried_Join_pan (c0_ c1_ : Nat) (x : Int) (w : World) (hc : ∀ w', Chg [] w w' → Calls Try.prog 30 #[.pointer (some ⟨c0_, 0, none⟩), .pointer (some ⟨c1_, 0, none⟩)] w' (Pan w' (.iface 25 (.int .i64 x)))) : Calls Try.prog 25 #[.func (.func 30) #[] #[.pointer (some ⟨c0_, 0, none⟩), .pointer (some ⟨c1_, 0, none⟩)]] w (RetV w (.tuple #[.slice none 0 0, .int .i64 x])) := by
  refine calls_of_CW_defers Try.func25 rfl (n := 7) Try.ntmps25 (by kernel_rfl) [0] (F := [(0, .func (.func 30) #[] #[.pointer (some ⟨c0_, 0, none⟩), .pointer (some ⟨c1_, 0, none⟩)])]) (by kernel_rfl) ?_
  refine CW.seq fun K1 hK1 => ?_
  refine CW.region ?_
  refine WR.batch 1 [(0, .func (.func 30) #[] #[.pointer (some ⟨c0_, 0, none⟩), .pointer (some ⟨c1_, 0, none⟩)]), (2, .slice none 0 0)] (by kernel_rfl) ?_
  refine WR.alloc (dst := some 3) (e := 25) (by kernel_rfl) #[.int .i64 (0 : Int)] (by kernel_rfl) ?_
  intro g2 w3 hN4
  have hf6 : w.heap.size ≤ g2 := hN4.fresh
  have hc7 := hN4.chg
  have hz9 := hc7.size
  have hC8 := (Chg.refl [] w).pure hc7
  have hb5 := hN4.blk
  have hg10 := hb5.lt
  refine WR.fin (by kernel_rfl) ?_
  refine go hK1 ?_
  refine CW.seq fun K11 hK11 => ?_
  refine CW.region ?_
  refine WR.batch 1 [(0, .func (.func 30) #[] #[.pointer (some ⟨c0_, 0, none⟩), .pointer (some ⟨c1_, 0, none⟩)]), (2, .slice none 0 0), (3, .pointer (some ⟨g2, 0, none⟩)), (4, .func (.func 34) #[] #[.pointer (some ⟨g2, 0, none⟩)])] (by kernel_rfl) ?_
  refine WR.defer (dst := none) (d := { target := .fn (.func 34) #[.pointer (some ⟨g2, 0, none⟩)], args := #[] }) (by kernel_rfl) ?_
  refine WR.fin (by kernel_rfl) ?_
  refine go hK11 ?_
  refine CW.seq fun K12 hK12 => ?_
  refine CW.region ?_
  refine WR.batch 1 [(2, .slice none 0 0), (3, .pointer (some ⟨g2, 0, none⟩)), (5, .func (.func 30) #[] #[.pointer (some ⟨c0_, 0, none⟩), .pointer (some ⟨c1_, 0, none⟩)])] (by kernel_rfl) ?_
  refine WR.callX (dst := some 6) (by kernel_rfl) (hc w3 hC8) ?_
  intro w13 hc14
  have hz16 := hc14.size
  have hC15 := hC8.pure hc14
  have hb17 := hb5.pure hc14
  exact panicD (P := Try.prog) (fn := Try.f25) (d := { target := .fn (.func 34) #[.pointer (some ⟨g2, 0, none⟩)], args := #[] }) (fv := .func 34) (cap := #[.pointer (some ⟨g2, 0, none⟩)]) (f := 34) (args := #[.pointer (some ⟨g2, 0, none⟩)]) (M := fun w1 => Chg [g2] w13 w1 ∧ Blk w1 g2 #[.int .i64 x] 25) (x := .iface 25 (.int .i64 x)) rfl (by kernel_rfl) (tb_pan g2 x w13 hb17) (fun _ => [.slice none 0 0, .int .i64 x]) (fun w1 hM => ⟨rfl, ⟨⟨g2, 0, none⟩, rfl, run_loadVar_ldv (hM.2) (by kernel_rfl)⟩, trivial⟩) (fun w1 hM => ⟨(hC15).step hM.1 (by intro t ht; simp only [List.mem_cons, List.not_mem_nil, or_false] at ht; subst ht; exact .inr (by omega)), rfl⟩)

theorem tried_Join_ok (c0_ c1_ : Nat) (l : List Bool) (w : World) (hc : ∀ w', Chg [] w w' → Calls Try.prog 30 #[.pointer (some ⟨c0_, 0, none⟩), .pointer (some ⟨c1_, 0, none⟩)] w' (Ret [] w' fun v w1 => OwnB w'.heap.size l v w1)) : Calls Try.prog 25 #[.func (.func 30) #[] #[.pointer (some ⟨c0_, 0, none⟩), .pointer (some ⟨c1_, 0, none⟩)]] w (Ret [] w fun v w' => ∃ ad cap e, v = .tuple #[.slice ad l.length cap, .int .i64 0] ∧ Own w' w.heap.size e 1 ad l.length cap (bo l)) := by
  refine calls_of_CW_defers Try.func25 rfl (n := 7) Try.ntmps25 (by kernel_rfl) [0] (F := [(0, .func (.func 30) #[] #[.pointer (some ⟨c0_, 0, none⟩), .pointer (some ⟨c1_, 0, none⟩)])]) (by kernel_rfl) ?_
  refine CW.seq fun K1 hK1 => ?_
  refine CW.region ?_
  refine WR.batch 1 [(0, .func (.func 30) #[] #[.pointer (some ⟨c0_, 0, none⟩), .pointer (some ⟨c1_, 0, none⟩)]), (2, .slice none 0 0)] (by kernel_rfl) ?_
  refine WR.alloc (dst := some 3) (e := 25) (by kernel_rfl) #[.int .i64 (0 : Int)] (by kernel_rfl) ?_
  intro g2 w3 hN4
  have hf6 : w.heap.size ≤ g2 := hN4.fresh
  have hc7 := hN4.chg
  have hz9 := hc7.size
  have hC8 := (Chg.refl [] w).pure hc7
  have hb5 := hN4.blk
  have hg10 := hb5.lt
  refine WR.fin (by kernel_rfl) ?_
  refine go hK1 ?_
  refine CW.seq fun K11 hK11 => ?_
  refine CW.region ?_
  refine WR.batch 1 [(0, .func (.func 30) #[] #[.pointer (some ⟨c0_, 0, none⟩), .pointer (some ⟨c1_, 0, none⟩)]), (2, .slice none 0 0), (3, .pointer (some ⟨g2, 0, none⟩)), (4, .func (.func 34) #[] #[.pointer (some ⟨g2, 0, none⟩)])] (by kernel_rfl) ?_
  refine WR.defer (dst := none) (d := { target := .fn (.func 34) #[.pointer (some ⟨g2, 0, none⟩)], args := #[] }) (by kernel_rfl) ?_
  refine WR.fin (by kernel_rfl) ?_
  refine go hK11 ?_
  refine CW.seq fun K12 hK12 => ?_
  refine CW.region ?_
  refine WR.batch 1 [(2, .slice none 0 0), (3, .pointer (some ⟨g2, 0, none⟩)), (5, .func (.func 30) #[] #[.pointer (some ⟨c0_, 0, none⟩), .pointer (some ⟨c1_, 0, none⟩)])] (by kernel_rfl) ?_
  refine WR.call (dst := some 6) (by kernel_rfl) (hc w3 hC8) ?_
  rintro _ w17 hc18 ⟨ad13, cap14, e15, rfl, ho16⟩
  have hz20 := hc18.size
  have hC19 := hC8.pure hc18
  have hb21 := hb5.pure hc18
  refine WR.batch 1 [(2, .slice ad13 l.length cap14), (3, .pointer (some ⟨g2, 0, none⟩))] (by kernel_rfl) ?_
  refine WR.store (t := 25) (o := 0) (v := .int .i64 (0 : Int)) hb21 (by kernel_rfl) #[.int .i64 (0 : Int)] (by kernel_rfl) ?_
  intro w22 hb23 hc24
  have hz26 := hc24.size
  have hC25 := hC19.step hc24 (by intro t ht; simp only [List.mem_cons, List.not_mem_nil, or_false] at ht; subst ht; first | exact .inr (by omega) | exact .inl (by simp))
  have ho27 := ho16.chg hc24 (by exact ho16.off1 (.inl (by omega)))
  refine WR.fin (by kernel_rfl) ?_
  refine go hK12 ?_
  refine CW.ret ?_
  exact retD (P := Try.prog) (fn := Try.f25) (d := { target := .fn (.func 34) #[.pointer (some ⟨g2, 0, none⟩)], args := #[] }) (fv := .func 34) (cap := #[.pointer (some ⟨g2, 0, none⟩)]) (f := 34) (args := #[.pointer (some ⟨g2, 0, none⟩)]) (M := fun w1 => Chg [] w22 w1) rfl (by kernel_rfl) (tb_ret g2 w22) (fun _ => [.slice ad13 l.length cap14, .int .i64 (0 : Int)]) (fun w1 hM => ⟨rfl, ⟨⟨g2, 0, none⟩, rfl, run_loadVar_ldv (hb23.pure hM) (by kernel_rfl)⟩, trivial⟩) (fun w1 hM => ⟨(hC25).pure hM, ⟨_, _, _, rfl, (ho27.weak (by omega)).pure hM⟩⟩)

theorem Join_pan (ad1 ad2 : Option Addr) (m1 m2 cap1 cap2 : Nat) (x : Int) (w : World) (hc : ∀ c0_ c1_ w', Chg [] w w' → Blk w' c0_ #[.slice ad1 m1 cap1] 22 → Blk w' c1_ #[.slice ad2 m2 cap2] 22 → Calls Try.prog 30 #[.pointer (some ⟨c0_, 0, none⟩), .pointer (some ⟨c1_, 0, none⟩)] w' (Pan w' (.iface 25 (.int .i64 x))))  : Calls Try.prog 11 #[.slice ad1 m1 cap1, .slice ad2 m2 cap2] w (RetV w (.slice none 0 0)) := by
  refine calls_of_CW Try.func11 rfl (n := 13) Try.ntmps11 (by kernel_rfl) [0, 1] (F := [(0, .slice ad1 m1 cap1), (1, .slice ad2 m2 cap2)]) (by kernel_rfl) ?_
  refine CW.seq fun K1 hK1 => ?_
  refine CW.region ?_
  refine WR.box (dst := some 2) (e := 22) (v := .slice ad1 m1 cap1) (by kernel_rfl) #[.slice ad1 m1 cap1] (by kernel_rfl) ?_
  intro g2 w3 hN4
  have hf6 : w.heap.size ≤ g2 := hN4.fresh
  have hc7 := hN4.chg
  have hz9 := hc7.size
  have hC8 := (Chg.refl [] w).pure hc7
  have hb5 := hN4.blk
  have hg10 := hb5.lt
  refine WR.box (dst := some 3) (e := 22) (v := .slice ad2 m2 cap2) (by kernel_rfl) #[.slice ad2 m2 cap2] (by kernel_rfl) ?_
  intro g11 w12 hN13
  have hl16 : g2 < g11 := Nat.lt_of_lt_of_le hb5.lt hN13.fresh
  have hf15 : w.heap.size ≤ g11 := Nat.le_trans hC8.size hN13.fresh
  have hc17 := hN13.chg
  have hz19 := hc17.size
  have hC18 := hC8.pure hc17
  have hb20 := hb5.pure hc17
  have hb14 := hN13.blk
  have hg21 := hb14.lt
  refine WR.batch 1 [(2, .pointer (some ⟨g2, 0, none⟩)), (3, .pointer (some ⟨g11, 0, none⟩))] (by kernel_rfl) ?_
  refine WR.fin (by kernel_rfl) ?_
  refine go hK1 ?_
  refine CW.seq fun K22 hK22 => ?_
  refine CW.region ?_
  refine WR.batch 1 [(8, .func (.func 30) #[] #[.pointer (some ⟨g2, 0, none⟩), .pointer (some ⟨g11, 0, none⟩)])] (by kernel_rfl) ?_
  refine WR.call (dst := some 9) (by kernel_rfl) (tried_Join_pan g2 g11 x w12 (fun w1 h1 => hc g2 g11 w1 (hC18.pure h1) (hb20.pure h1) (hb14.pure h1))) ?_
  rintro _ w23 hc24 rfl
  have hz26 := hc24.size
  have hC25 := hC18.pure hc24
  have hb27 := hb20.pure hc24
  have hb28 := hb14.pure hc24
  refine WR.batch 5 [(5, .slice none 0 0)] (by kernel_rfl) ?_
  refine WR.fin (by kernel_rfl) ?_
  refine go hK22 ?_
  refine CW.seq fun K29 hK29 => ?_
  refine CW.region ?_
  refine WR.batch 2 [(4, .slice none 0 0)] (by kernel_rfl) ?_
  refine WR.fin (by kernel_rfl) ?_
  refine go hK29 ?_
  refine CW.ret ?_
  exact retV (.slice none 0 0) (by kernel_rfl) ⟨hC25, rfl⟩

theorem Join_fine (ad1 ad2 : Option Addr) (m1 m2 cap1 cap2 : Nat) (l : List Bool) (w : World) (hc : ∀ c0_ c1_ w', Chg [] w w' → Blk w' c0_ #[.slice ad1 m1 cap1] 22 → Blk w' c1_ #[.slice ad2 m2 cap2] 22 → Calls Try.prog 30 #[.pointer (some ⟨c0_, 0, none⟩), .pointer (some ⟨c1_, 0, none⟩)] w' (Ret [] w' fun v w1 => OwnB w'.heap.size l v w1))  : Calls Try.prog 11 #[.slice ad1 m1 cap1, .slice ad2 m2 cap2] w (Ret [] w fun v w' => OwnB w.heap.size l v w') := by
  refine calls_of_CW Try.func11 rfl (n := 13) Try.ntmps11 (by kernel_rfl) [0, 1] (F := [(0, .slice ad1 m1 cap1), (1, .slice ad2 m2 cap2)]) (by kernel_rfl) ?_
  refine CW.seq fun K1 hK1 => ?_
  refine CW.region ?_
  refine WR.box (dst := some 2) (e := 22) (v := .slice ad1 m1 cap1) (by kernel_rfl) #[.slice ad1 m1 cap1] (by kernel_rfl) ?_
  intro g2 w3 hN4
  have hf6 : w.heap.size ≤ g2 := hN4.fresh
  have hc7 := hN4.chg
  have hz9 := hc7.size
  have hC8 := (Chg.refl [] w).pure hc7
  have hb5 := hN4.blk
  have hg10 := hb5.lt
  refine WR.box (dst := some 3) (e := 22) (v := .slice ad2 m2 cap2) (by kernel_rfl) #[.slice ad2 m2 cap2] (by kernel_rfl) ?_
  intro g11 w12 hN13
  have hl16 : g2 < g11 := Nat.lt_of_lt_of_le hb5.lt hN13.fresh
  have hf15 : w.heap.size ≤ g11 := Nat.le_trans hC8.size hN13.fresh
  have hc17 := hN13.chg
  have hz19 := hc17.size
  have hC18 := hC8.pure hc17
  have hb20 := hb5.pure hc17
  have hb14 := hN13.blk
  have hg21 := hb14.lt
  refine WR.batch 1 [(2, .pointer (some ⟨g2, 0, none⟩)), (3, .pointer (some ⟨g11, 0, none⟩))] (by kernel_rfl) ?_
  refine WR.fin (by kernel_rfl) ?_
  refine go hK1 ?_
  refine CW.seq fun K22 hK22 => ?_
  refine CW.region ?_
  refine WR.batch 1 [(8, .func (.func 30) #[] #[.pointer (some ⟨g2, 0, none⟩), .pointer (some ⟨g11, 0, none⟩)])] (by kernel_rfl) ?_
  refine WR.call (dst := some 9) (by kernel_rfl) (tried_Join_ok g2 g11 l w12 (fun w1 h1 => hc g2 g11 w1 (hC18.pure h1) (hb20.pure h1) (hb14.pure h1))) ?_
  rintro _ w27 hc28 ⟨ad23, cap24, e25, rfl, ho26⟩
  have hz30 := hc28.size
  have hC29 := hC18.pure hc28
  have hb31 := hb20.pure hc28
  have hb32 := hb14.pure hc28
  refine WR.batch 5 [(5, .slice ad23 l.length cap24)] (by kernel_rfl) ?_
  refine WR.fin (by kernel_rfl) ?_
  refine go hK22 ?_
  refine CW.seq fun K33 hK33 => ?_
  refine CW.region ?_
  refine WR.batch 2 [(4, .slice ad23 l.length cap24)] (by kernel_rfl) ?_
  refine WR.fin (by kernel_rfl) ?_
  refine go hK33 ?_
  refine CW.ret ?_
  exact retV (.slice ad23 l.length cap24) (by kernel_rfl) ⟨hC29, ⟨_, _, _, rfl, ho26.weak (by omega)⟩⟩

theorem tried_Read_pan (c0_ c1_ c2_ : Nat) (x : Int) (w : World) (hc : ∀ w', Chg [] w w' → Calls Try.prog 32 #[.pointer (some ⟨c0_, 0, none⟩), .pointer (some ⟨c1_, 0, none⟩), .pointer (some ⟨c2_, 0, none⟩)] w' (Pan w' (.iface 25 (.int .i64 x)))) : Calls Try.prog 31 #[.func (.func 32) #[] #[.pointer (some ⟨c0_, 0, none⟩), .pointer (some ⟨c1_, 0, none⟩), .pointer (some ⟨c2_, 0, none⟩)]] w (RetV w (.tuple #[.bool false, .int .i64 x])) := by
  refine calls_of_CW_defers Try.func31 rfl (n := 7) Try.ntmps31 (by kernel_rfl) [0] (F := [(0, .func (.func 32) #[] #[.pointer (some ⟨c0_, 0, none⟩), .pointer (some ⟨c1_, 0, none⟩), .pointer (some ⟨c2_, 0, none⟩)])]) (by kernel_rfl) ?_
  refine CW.seq fun K1 hK1 => ?_
  refine CW.region ?_
  refine WR.batch 1 [(0, .func (.func 32) #[] #[.pointer (some ⟨c0_, 0, none⟩), .pointer (some ⟨c1_, 0, none⟩), .pointer (some ⟨c2_, 0, none⟩)]), (2, .bool false)] (by kernel_rfl) ?_
  refine WR.alloc (dst := some 3) (e := 25) (by kernel_rfl) #[.int .i64 (0 : Int)] (by kernel_rfl) ?_
  intro g2 w3 hN4
  have hf6 : w.heap.size ≤ g2 := hN4.fresh
  have hc7 := hN4.chg
  have hz9 := hc7.size
  have hC8 := (Chg.refl [] w).pure hc7
  have hb5 := hN4.blk
  have hg10 := hb5.lt
  refine WR.fin (by kernel_rfl) ?_
  refine go hK1 ?_
  refine CW.seq fun K11 hK11 => ?_
  refine CW.region ?_
  refine WR.batch 1 [(0, .func (.func 32) #[] #[.pointer (some ⟨c0_, 0, none⟩), .pointer (some ⟨c1_, 0, none⟩), .pointer (some ⟨c2_, 0, none⟩)]), (2, .bool false), (3, .pointer (some ⟨g2, 0, none⟩)), (4, .func (.func 35) #[] #[.pointer (some ⟨g2, 0, none⟩)])] (by kernel_rfl) ?_
  refine WR.defer (dst := none) (d := { target := .fn (.func 35) #[.pointer (some ⟨g2, 0, none⟩)], args := #[] }) (by kernel_rfl) ?_
  refine WR.fin (by kernel_rfl) ?_
  refine go hK11 ?_
  refine CW.seq fun K12 hK12 => ?_
  refine CW.region ?_
  refine WR.batch 1 [(2, .bool false), (3, .pointer (some ⟨g2, 0, none⟩)), (5, .func (.func 32) #[] #[.pointer (some ⟨c0_, 0, none⟩), .pointer (some ⟨c1_, 0, none⟩), .pointer (some ⟨c2_, 0, none⟩)])] (by kernel_rfl) ?_
  refine WR.callX (dst := some 6) (by kernel_rfl) (hc w3 hC8) ?_
  intro w13 hc14
  have hz16 := hc14.size
  have hC15 := hC8.pure hc14
  have hb17 := hb5.pure hc14
  exact panicD (P := Try.prog) (fn := Try.f31) (d := { target := .fn (.func 35) #[.pointer (some ⟨g2, 0, none⟩)], args := #[] }) (fv := .func 35) (cap := #[.pointer (some ⟨g2, 0, none⟩)]) (f := 35) (args := #[.pointer (some ⟨g2, 0, none⟩)]) (M := fun w1 => Chg [g2] w13 w1 ∧ Blk w1 g2 #[.int .i64 x] 25) (x := .iface 25 (.int .i64 x)) rfl (by kernel_rfl) (tt_pan g2 x w13 hb17) (fun _ => [.bool false, .int .i64 x]) (fun w1 hM => ⟨rfl, ⟨⟨g2, 0, none⟩, rfl, run_loadVar_ldv (hM.2) (by kernel_rfl)⟩, trivial⟩) (fun w1 hM => ⟨(hC15).step hM.1 (by intro t ht; simp only [List.mem_cons, List.not_mem_nil, or_false] at ht; subst ht; exact .inr (by omega)), rfl⟩)

theorem tried_Read_ok (c0_ c1_ c2_ : Nat) (l : Bool) (w : World) (hc : ∀ w', Chg [] w w' → Calls Try.prog 32 #[.pointer (some ⟨c0_, 0, none⟩), .pointer (some ⟨c1_, 0, none⟩), .pointer (some ⟨c2_, 0, none⟩)] w' (RetV w' (.bool l))) : Calls Try.prog 31 #[.func (.func 32) #[] #[.pointer (some ⟨c0_, 0, none⟩), .pointer (some ⟨c1_, 0, none⟩), .pointer (some ⟨c2_, 0, none⟩)]] w (RetV w (.tuple #[.bool l, .int .i64 0])) := by
  refine calls_of_CW_defers Try.func31 rfl (n := 7) Try.ntmps31 (by kernel_rfl) [0] (F := [(0, .func (.func 32) #[] #[.pointer (some ⟨c0_, 0, none⟩), .pointer (some ⟨c1_, 0, none⟩), .pointer (some ⟨c2_, 0, none⟩)])]) (by kernel_rfl) ?_
  refine CW.seq fun K1 hK1 => ?_
  refine CW.region ?_
  refine WR.batch 1 [(0, .func (.func 32) #[] #[.pointer (some ⟨c0_, 0, none⟩), .pointer (some ⟨c1_, 0, none⟩), .pointer (some ⟨c2_, 0, none⟩)]), (2, .bool false)] (by kernel_rfl) ?_
  refine WR.alloc (dst := some 3) (e := 25) (by kernel_rfl) #[.int .i64 (0 : Int)] (by kernel_rfl) ?_
  intro g2 w3 hN4
  have hf6 : w.heap.size ≤ g2 := hN4.fresh
  have hc7 := hN4.chg
  have hz9 := hc7.size
  have hC8 := (Chg.refl [] w).pure hc7
  have hb5 := hN4.blk
  have hg10 := hb5.lt
  refine WR.fin (by kernel_rfl) ?_
  refine go hK1 ?_
  refine CW.seq fun K11 hK11 => ?_
  refine CW.region ?_
  refine WR.batch 1 [(0, .func (.func 32) #[] #[.pointer (some ⟨c0_, 0, none⟩), .pointer (some ⟨c1_, 0, none⟩), .pointer (some ⟨c2_, 0, none⟩)]), (2, .bool false), (3, .pointer (some ⟨g2, 0, none⟩)), (4, .func (.func 35) #[] #[.pointer (some ⟨g2, 0, none⟩)])] (by kernel_rfl) ?_
  refine WR.defer (dst := none) (d := { target := .fn (.func 35) #[.pointer (some ⟨g2, 0, none⟩)], args := #[] }) (by kernel_rfl) ?_
  refine WR.fin (by kernel_rfl) ?_
  refine go hK11 ?_
  refine CW.seq fun K12 hK12 => ?_
  refine CW.region ?_
  refine WR.batch 1 [(2, .bool false), (3, .pointer (some ⟨g2, 0, none⟩)), (5, .func (.func 32) #[] #[.pointer (some ⟨c0_, 0, none⟩), .pointer (some ⟨c1_, 0, none⟩), .pointer (some ⟨c2_, 0, none⟩)])] (by kernel_rfl) ?_
  refine WR.call (dst := some 6) (by kernel_rfl) (hc w3 hC8) ?_
  rintro _ w13 hc14 rfl
  have hz16 := hc14.size
  have hC15 := hC8.pure hc14
  have hb17 := hb5.pure hc14
  refine WR.batch 1 [(2, .bool l), (3, .pointer (some ⟨g2, 0, none⟩))] (by kernel_rfl) ?_
  refine WR.store (t := 25) (o := 0) (v := .int .i64 (0 : Int)) hb17 (by kernel_rfl) #[.int .i64 (0 : Int)] (by kernel_rfl) ?_
  intro w18 hb19 hc20
  have hz22 := hc20.size
  have hC21 := hC15.step hc20 (by intro t ht; simp only [List.mem_cons, List.not_mem_nil, or_false] at ht; subst ht; first | exact .inr (by omega) | exact .inl (by simp))
  refine WR.fin (by kernel_rfl) ?_
  refine go hK12 ?_
  refine CW.ret ?_
  exact retD (P := Try.prog) (fn := Try.f31) (d := { target := .fn (.func 35) #[.pointer (some ⟨g2, 0, none⟩)], args := #[] }) (fv := .func 35) (cap := #[.pointer (some ⟨g2, 0, none⟩)]) (f := 35) (args := #[.pointer (some ⟨g2, 0, none⟩)]) (M := fun w1 => Chg [] w18 w1) rfl (by kernel_rfl) (tt_ret g2 w18) (fun _ => [.bool l, .int .i64 (0 : Int)]) (fun w1 hM => ⟨rfl, ⟨⟨g2, 0, none⟩, rfl, run_loadVar_ldv (hb19.pure hM) (by kernel_rfl)⟩, trivial⟩) (fun w1 hM => ⟨(hC21).pure hM, rfl⟩)

theorem Read_pan (ad : Option Addr) (m cap : Nat) (at_ size : Int) (x : Int) (w : World) (hc : ∀ c0_ c1_ c2_ w', Chg [] w w' → Blk w' c0_ #[.slice ad m cap] 22 → Blk w' c1_ #[.int .i64 at_] 2 → Blk w' c2_ #[.int .i64 size] 3 → Calls Try.prog 32 #[.pointer (some ⟨c0_, 0, none⟩), .pointer (some ⟨c1_, 0, none⟩), .pointer (some ⟨c2_, 0, none⟩)] w' (Pan w' (.iface 25 (.int .i64 x))))  : Calls Try.prog 13 #[.slice ad m cap, .int .i64 at_, .int .i64 size] w (RetV w (.int .i64 x)) := by
  refine calls_of_CW Try.func13 rfl (n := 15) Try.ntmps13 (by kernel_rfl) [0, 1, 2] (F := [(0, .slice ad m cap), (1, .int .i64 at_), (2, .int .i64 size)]) (by kernel_rfl) ?_
  refine CW.seq fun K1 hK1 => ?_
  refine CW.region ?_
  refine WR.box (dst := some 3) (e := 22) (v := .slice ad m cap) (by kernel_rfl) #[.slice ad m cap] (by kernel_rfl) ?_
  intro g2 w3 hN4
  have hf6 : w.heap.size ≤ g2 := hN4.fresh
  have hc7 := hN4.chg
  have hz9 := hc7.size
  have hC8 := (Chg.refl [] w).pure hc7
  have hb5 := hN4.blk
  have hg10 := hb5.lt
  refine WR.box (dst := some 4) (e := 2) (v := .int .i64 at_) (by kernel_rfl) #[.int .i64 at_] (by kernel_rfl) ?_
  intro g11 w12 hN13
  have hl16 : g2 < g11 := Nat.lt_of_lt_of_le hb5.lt hN13.fresh
  have hf15 : w.heap.size ≤ g11 := Nat.le_trans hC8.size hN13.fresh
  have hc17 := hN13.chg
  have hz19 := hc17.size
  have hC18 := hC8.pure hc17
  have hb20 := hb5.pure hc17
  have hb14 := hN13.blk
  have hg21 := hb14.lt
  refine WR.box (dst := some 5) (e := 3) (v := .int .i64 size) (by kernel_rfl) #[.int .i64 size] (by kernel_rfl) ?_
  intro g22 w23 hN24
  have hl27 : g2 < g22 := Nat.lt_of_lt_of_le hb20.lt hN24.fresh
  have hl28 : g11 < g22 := Nat.lt_of_lt_of_le hb14.lt hN24.fresh
  have hf26 : w.heap.size ≤ g22 := Nat.le_trans hC18.size hN24.fresh
  have hc29 := hN24.chg
  have hz31 := hc29.size
  have hC30 := hC18.pure hc29
  have hb32 := hb20.pure hc29
  have hb33 := hb14.pure hc29
  have hb25 := hN24.blk
  have hg34 := hb25.lt
  refine WR.batch 1 [(3, .pointer (some ⟨g2, 0, none⟩)), (4, .pointer (some ⟨g11, 0, none⟩)), (5, .pointer (some ⟨g22, 0, none⟩))] (by kernel_rfl) ?_
  refine WR.fin (by kernel_rfl) ?_
  refine go hK1 ?_
  refine CW.seq fun K35 hK35 => ?_
  refine CW.region ?_
  refine WR.batch 1 [(10, .func (.func 32) #[] #[.pointer (some ⟨g2, 0, none⟩), .pointer (some ⟨g11, 0, none⟩), .pointer (some ⟨g22, 0, none⟩)])] (by kernel_rfl) ?_
  refine WR.call (dst := some 11) (by kernel_rfl) (tried_Read_pan g2 g11 g22 x w23 (fun w1 h1 => hc g2 g11 g22 w1 (hC30.pure h1) (hb32.pure h1) (hb33.pure h1) (hb25.pure h1))) ?_
  rintro _ w36 hc37 rfl
  have hz39 := hc37.size
  have hC38 := hC30.pure hc37
  have hb40 := hb32.pure hc37
  have hb41 := hb33.pure hc37
  have hb42 := hb25.pure hc37
  refine WR.batch 5 [(8, .int .i64 x)] (by kernel_rfl) ?_
  refine WR.fin (by kernel_rfl) ?_
  refine go hK35 ?_
  refine CW.seq fun K43 hK43 => ?_
  refine CW.region ?_
  refine WR.batch 2 [(6, .int .i64 x)] (by kernel_rfl) ?_
  refine WR.fin (by kernel_rfl) ?_
  refine go hK43 ?_
  refine CW.ret ?_
  exact retV (.int .i64 x) (by kernel_rfl) ⟨hC38, rfl⟩

theorem Read_fine (ad : Option Addr) (m cap : Nat) (at_ size : Int) (l : Bool) (w : World) (hc : ∀ c0_ c1_ c2_ w', Chg [] w w' → Blk w' c0_ #[.slice ad m cap] 22 → Blk w' c1_ #[.int .i64 at_] 2 → Blk w' c2_ #[.int .i64 size] 3 → Calls Try.prog 32 #[.pointer (some ⟨c0_, 0, none⟩), .pointer (some ⟨c1_, 0, none⟩), .pointer (some ⟨c2_, 0, none⟩)] w' (RetV w' (.bool l)))  : Calls Try.prog 13 #[.slice ad m cap, .int .i64 at_, .int .i64 size] w (RetV w (.int .i64 0)) := by
  refine calls_of_CW Try.func13 rfl (n := 15) Try.ntmps13 (by kernel_rfl) [0, 1, 2] (F := [(0, .slice ad m cap), (1, .int .i64 at_), (2, .int .i64 size)]) (by kernel_rfl) ?_
  refine CW.seq fun K1 hK1 => ?_
  refine CW.region ?_
  refine WR.box (dst := some 3) (e := 22) (v := .slice ad m cap) (by kernel_rfl) #[.slice ad m cap] (by kernel_rfl) ?_
  intro g2 w3 hN4
  have hf6 : w.heap.size ≤ g2 := hN4.fresh
  have hc7 := hN4.chg
  have hz9 := hc7.size
  have hC8 := (Chg.refl [] w).pure hc7
  have hb5 := hN4.blk
  have hg10 := hb5.lt
  refine WR.box (dst := some 4) (e := 2) (v := .int .i64 at_) (by kernel_rfl) #[.int .i64 at_] (by kernel_rfl) ?_
  intro g11 w12 hN13
  have hl16 : g2 < g11 := Nat.lt_of_lt_of_le hb5.lt hN13.fresh
  have hf15 : w.heap.size ≤ g11 := Nat.le_trans hC8.size hN13.fresh
  have hc17 := hN13.chg
  have hz19 := hc17.size
  have hC18 := hC8.pure hc17
  have hb20 := hb5.pure hc17
  have hb14 := hN13.blk
  have hg21 := hb14.lt
  refine WR.box (dst := some 5) (e := 3) (v := .int .i64 size) (by kernel_rfl) #[.int .i64 size] (by kernel_rfl) ?_
  intro g22 w23 hN24
  have hl27 : g2 < g22 := Nat.lt_of_lt_of_le hb20.lt hN24.fresh
  have hl28 : g11 < g22 := Nat.lt_of_lt_of_le hb14.lt hN24.fresh
  have hf26 : w.heap.size ≤ g22 := Nat.le_trans hC18.size hN24.fresh
  have hc29 := hN24.chg
  have hz31 := hc29.size
  have hC30 := hC18.pure hc29
  have hb32 := hb20.pure hc29
  have hb33 := hb14.pure hc29
  have hb25 := hN24.blk
  have hg34 := hb25.lt
  refine WR.batch 1 [(3, .pointer (some ⟨g2, 0, none⟩)), (4, .pointer (some ⟨g11, 0, none⟩)), (5, .pointer (some ⟨g22, 0, none⟩))] (by kernel_rfl) ?_
  refine WR.fin (by kernel_rfl) ?_
  refine go hK1 ?_
  refine CW.seq fun K35 hK35 => ?_
  refine CW.region ?_
  refine WR.batch 1 [(10, .func (.func 32) #[] #[.pointer (some ⟨g2, 0, none⟩), .pointer (some ⟨g11, 0, none⟩), .pointer (some ⟨g22, 0, none⟩)])] (by kernel_rfl) ?_
  refine WR.call (dst := some 11) (by kernel_rfl) (tried_Read_ok g2 g11 g22 l w23 (fun w1 h1 => hc g2 g11 g22 w1 (hC30.pure h1) (hb32.pure h1) (hb33.pure h1) (hb25.pure h1))) ?_
  rintro _ w36 hc37 rfl
  have hz39 := hc37.size
  have hC38 := hC30.pure hc37
  have hb40 := hb32.pure hc37
  have hb41 := hb33.pure hc37
  have hb42 := hb25.pure hc37
  refine WR.batch 5 [(8, .int .i64 (0 : Int))] (by kernel_rfl) ?_
  refine WR.fin (by kernel_rfl) ?_
  refine go hK35 ?_
  refine CW.seq fun K43 hK43 => ?_
  refine CW.region ?_
  refine WR.batch 2 [(6, .int .i64 (0 : Int))] (by kernel_rfl) ?_
  refine WR.fin (by kernel_rfl) ?_
  refine go hK43 ?_
  refine CW.ret ?_
  exact retV (.int .i64 (0 : Int)) (by kernel_rfl) ⟨hC38, rfl⟩

theorem tried_Within_pan (c0_ c1_ : Nat) (x : Int) (w : World) (hc : ∀ w', Chg [] w w' → Calls Try.prog 33 #[.pointer (some ⟨c0_, 0, none⟩), .pointer (some ⟨c1_, 0, none⟩)] w' (Pan w' (.iface 25 (.int .i64 x)))) : Calls Try.prog 31 #[.func (.func 33) #[] #[.pointer (some ⟨c0_, 0, none⟩), .pointer (some ⟨c1_, 0, none⟩)]] w (RetV w (.tuple #[.bool false, .int .i64 x])) := by
  refine calls_of_CW_defers Try.func31 rfl (n := 7) Try.ntmps31 (by kernel_rfl) [0] (F := [(0, .func (.func 33) #[] #[.pointer (some ⟨c0_, 0, none⟩), .pointer (some ⟨c1_, 0, none⟩)])]) (by kernel_rfl) ?_
  refine CW.seq fun K1 hK1 => ?_
  refine CW.region ?_
  refine WR.batch 1 [(0, .func (.func 33) #[] #[.pointer (some ⟨c0_, 0, none⟩), .pointer (some ⟨c1_, 0, none⟩)]), (2, .bool false)] (by kernel_rfl) ?_
  refine WR.alloc (dst := some 3) (e := 25) (by kernel_rfl) #[.int .i64 (0 : Int)] (by kernel_rfl) ?_
  intro g2 w3 hN4
  have hf6 : w.heap.size ≤ g2 := hN4.fresh
  have hc7 := hN4.chg
  have hz9 := hc7.size
  have hC8 := (Chg.refl [] w).pure hc7
  have hb5 := hN4.blk
  have hg10 := hb5.lt
  refine WR.fin (by kernel_rfl) ?_
  refine go hK1 ?_
  refine CW.seq fun K11 hK11 => ?_
  refine CW.region ?_
  refine WR.batch 1 [(0, .func (.func 33) #[] #[.pointer (some ⟨c0_, 0, none⟩), .pointer (some ⟨c1_, 0, none⟩)]), (2, .bool false), (3, .pointer (some ⟨g2, 0, none⟩)), (4, .func (.func 35) #[] #[.pointer (some ⟨g2, 0, none⟩)])] (by kernel_rfl) ?_
  refine WR.defer (dst := none) (d := { target := .fn (.func 35) #[.pointer (some ⟨g2, 0, none⟩)], args := #[] }) (by kernel_rfl) ?_
  refine WR.fin (by kernel_rfl) ?_
  refine go hK11 ?_
  refine CW.seq fun K12 hK12 => ?_
  refine CW.region ?_
  refine WR.batch 1 [(2, .bool false), (3, .pointer (some ⟨g2, 0, none⟩)), (5, .func (.func 33) #[] #[.pointer (some ⟨c0_, 0, none⟩), .pointer (some ⟨c1_, 0, none⟩)])] (by kernel_rfl) ?_
  refine WR.callX (dst := some 6) (by kernel_rfl) (hc w3 hC8) ?_
  intro w13 hc14
  have hz16 := hc14.size
  have hC15 := hC8.pure hc14
  have hb17 := hb5.pure hc14
  exact panicD (P := Try.prog) (fn := Try.f31) (d := { target := .fn (.func 35) #[.pointer (some ⟨g2, 0, none⟩)], args := #[] }) (fv := .func 35) (cap := #[.pointer (some ⟨g2, 0, none⟩)]) (f := 35) (args := #[.pointer (some ⟨g2, 0, none⟩)]) (M := fun w1 => Chg [g2] w13 w1 ∧ Blk w1 g2 #[.int .i64 x] 25) (x := .iface 25 (.int .i64 x)) rfl (by kernel_rfl) (tt_pan g2 x w13 hb17) (fun _ => [.bool false, .int .i64 x]) (fun w1 hM => ⟨rfl, ⟨⟨g2, 0, none⟩, rfl, run_loadVar_ldv (hM.2) (by kernel_rfl)⟩, trivial⟩) (fun w1 hM => ⟨(hC15).step hM.1 (by intro t ht; simp only [List.mem_cons, List.not_mem_nil, or_false] at ht; subst ht; exact .inr (by omega)), rfl⟩)

theorem tried_Within_ok (c0_ c1_ : Nat) (l : Bool) (w : World) (hc : ∀ w', Chg [] w w' → Calls Try.prog 33 #[.pointer (some ⟨c0_, 0, none⟩), .pointer (some ⟨c1_, 0, none⟩)] w' (RetV w' (.bool l))) : Calls Try.prog 31 #[.func (.func 33) #[] #[.pointer (some ⟨c0_, 0, none⟩), .pointer (some ⟨c1_, 0, none⟩)]] w (RetV w (.tuple #[.bool l, .int .i64 0])) := by
  refine calls_of_CW_defers Try.func31 rfl (n := 7) Try.ntmps31 (by kernel_rfl) [0] (F := [(0, .func (.func 33) #[] #[.pointer (some ⟨c0_, 0, none⟩), .pointer (some ⟨c1_, 0, none⟩)])]) (by kernel_rfl) ?_
  refine CW.seq fun K1 hK1 => ?_
  refine CW.region ?_
  refine WR.batch 1 [(0, .func (.func 33) #[] #[.pointer (some ⟨c0_, 0, none⟩), .pointer (some ⟨c1_, 0, none⟩)]), (2, .bool false)] (by kernel_rfl) ?_
  refine WR.alloc (dst := some 3) (e := 25) (by kernel_rfl) #[.int .i64 (0 : Int)] (by kernel_rfl) ?_
  intro g2 w3 hN4
  have hf6 : w.heap.size ≤ g2 := hN4.fresh
  have hc7 := hN4.chg
  have hz9 := hc7.size
  have hC8 := (Chg.refl [] w).pure hc7
  have hb5 := hN4.blk
  have hg10 := hb5.lt
  refine WR.fin (by kernel_rfl) ?_
  refine go hK1 ?_
  refine CW.seq fun K11 hK11 => ?_
  refine CW.region ?_
  refine WR.batch 1 [(0, .func (.func 33) #[] #[.pointer (some ⟨c0_, 0, none⟩), .pointer (some ⟨c1_, 0, none⟩)]), (2, .bool false), (3, .pointer (some ⟨g2, 0, none⟩)), (4, .func (.func 35) #[] #[.pointer (some ⟨g2, 0, none⟩)])] (by kernel_rfl) ?_
  refine WR.defer (dst := none) (d := { target := .fn (.func 35) #[.pointer (some ⟨g2, 0, none⟩)], args := #[] }) (by kernel_rfl) ?_
  refine WR.fin (by kernel_rfl) ?_
  refine go hK11 ?_
  refine CW.seq fun K12 hK12 => ?_
  refine CW.region ?_
  refine WR.batch 1 [(2, .bool false), (3, .pointer (some ⟨g2, 0, none⟩)), (5, .func (.func 33) #[] #[.pointer (some ⟨c0_, 0, none⟩), .pointer (some ⟨c1_, 0, none⟩)])] (by kernel_rfl) ?_
  refine WR.call (dst := some 6) (by kernel_rfl) (hc w3 hC8) ?_
  rintro _ w13 hc14 rfl
  have hz16 := hc14.size
  have hC15 := hC8.pure hc14
  have hb17 := hb5.pure hc14
  refine WR.batch 1 [(2, .bool l), (3, .pointer (some ⟨g2, 0, none⟩))] (by kernel_rfl) ?_
  refine WR.store (t := 25) (o := 0) (v := .int .i64 (0 : Int)) hb17 (by kernel_rfl) #[.int .i64 (0 : Int)] (by kernel_rfl) ?_
  intro w18 hb19 hc20
  have hz22 := hc20.size
  have hC21 := hC15.step hc20 (by intro t ht; simp only [List.mem_cons, List.not_mem_nil, or_false] at ht; subst ht; first | exact .inr (by omega) | exact .inl (by simp))
  refine WR.fin (by kernel_rfl) ?_
  refine go hK12 ?_
  refine CW.ret ?_
  exact retD (P := Try.prog) (fn := Try.f31) (d := { target := .fn (.func 35) #[.pointer (some ⟨g2, 0, none⟩)], args := #[] }) (fv := .func 35) (cap := #[.pointer (some ⟨g2, 0, none⟩)]) (f := 35) (args := #[.pointer (some ⟨g2, 0, none⟩)]) (M := fun w1 => Chg [] w18 w1) rfl (by kernel_rfl) (tt_ret g2 w18) (fun _ => [.bool l, .int .i64 (0 : Int)]) (fun w1 hM => ⟨rfl, ⟨⟨g2, 0, none⟩, rfl, run_loadVar_ldv (hb19.pure hM) (by kernel_rfl)⟩, trivial⟩) (fun w1 hM => ⟨(hC21).pure hM, rfl⟩)

theorem Within_pan (ad1 ad2 : Option Addr) (m1 m2 cap1 cap2 : Nat) (x : Int) (w : World) (hc : ∀ c0_ c1_ w', Chg [] w w' → Blk w' c0_ #[.slice ad1 m1 cap1] 22 → Blk w' c1_ #[.slice ad2 m2 cap2] 22 → Calls Try.prog 33 #[.pointer (some ⟨c0_, 0, none⟩), .pointer (some ⟨c1_, 0, none⟩)] w' (Pan w' (.iface 25 (.int .i64 x))))  : Calls Try.prog 15 #[.slice ad1 m1 cap1, .slice ad2 m2 cap2] w (RetV w (.bool false)) := by
  refine calls_of_CW Try.func15 rfl (n := 13) Try.ntmps15 (by kernel_rfl) [0, 1] (F := [(0, .slice ad1 m1 cap1), (1, .slice ad2 m2 cap2)]) (by kernel_rfl) ?_
  refine CW.seq fun K1 hK1 => ?_
  refine CW.region ?_
  refine WR.box (dst := some 2) (e := 22) (v := .slice ad1 m1 cap1) (by kernel_rfl) #[.slice ad1 m1 cap1] (by kernel_rfl) ?_
  intro g2 w3 hN4
  have hf6 : w.heap.size ≤ g2 := hN4.fresh
  have hc7 := hN4.chg
  have hz9 := hc7.size
  have hC8 := (Chg.refl [] w).pure hc7
  have hb5 := hN4.blk
  have hg10 := hb5.lt
  refine WR.box (dst := some 3) (e := 22) (v := .slice ad2 m2 cap2) (by kernel_rfl) #[.slice ad2 m2 cap2] (by kernel_rfl) ?_
  intro g11 w12 hN13
  have hl16 : g2 < g11 := Nat.lt_of_lt_of_le hb5.lt hN13.fresh
  have hf15 : w.heap.size ≤ g11 := Nat.le_trans hC8.size hN13.fresh
  have hc17 := hN13.chg
  have hz19 := hc17.size
  have hC18 := hC8.pure hc17
  have hb20 := hb5.pure hc17
  have hb14 := hN13.blk
  have hg21 := hb14.lt
  refine WR.batch 1 [(2, .pointer (some ⟨g2, 0, none⟩)), (3, .pointer (some ⟨g11, 0, none⟩))] (by kernel_rfl) ?_
  refine WR.fin (by kernel_rfl) ?_
  refine go hK1 ?_
  refine CW.seq fun K22 hK22 => ?_
  refine CW.region ?_
  refine WR.batch 1 [(8, .func (.func 33) #[] #[.pointer (some ⟨g2, 0, none⟩), .pointer (some ⟨g11, 0, none⟩)])] (by kernel_rfl) ?_
  refine WR.call (dst := some 9) (by kernel_rfl) (tried_Within_pan g2 g11 x w12 (fun w1 h1 => hc g2 g11 w1 (hC18.pure h1) (hb20.pure h1) (hb14.pure h1))) ?_
  rintro _ w23 hc24 rfl
  have hz26 := hc24.size
  have hC25 := hC18.pure hc24
  have hb27 := hb20.pure hc24
  have hb28 := hb14.pure hc24
  refine WR.batch 5 [(5, .bool false)] (by kernel_rfl) ?_
  refine WR.fin (by kernel_rfl) ?_
  refine go hK22 ?_
  refine CW.seq fun K29 hK29 => ?_
  refine CW.region ?_
  refine WR.batch 2 [(4, .bool false)] (by kernel_rfl) ?_
  refine WR.fin (by kernel_rfl) ?_
  refine go hK29 ?_
  refine CW.ret ?_
  exact retV (.bool false) (by kernel_rfl) ⟨hC25, rfl⟩

theorem Within_fine (ad1 ad2 : Option Addr) (m1 m2 cap1 cap2 : Nat) (l : Bool) (w : World) (hc : ∀ c0_ c1_ w', Chg [] w w' → Blk w' c0_ #[.slice ad1 m1 cap1] 22 → Blk w' c1_ #[.slice ad2 m2 cap2] 22 → Calls Try.prog 33 #[.pointer (some ⟨c0_, 0, none⟩), .pointer (some ⟨c1_, 0, none⟩)] w' (RetV w' (.bool l)))  : Calls Try.prog 15 #[.slice ad1 m1 cap1, .slice ad2 m2 cap2] w (RetV w (.bool l)) := by
  refine calls_of_CW Try.func15 rfl (n := 13) Try.ntmps15 (by kernel_rfl) [0, 1] (F := [(0, .slice ad1 m1 cap1), (1, .slice ad2 m2 cap2)]) (by kernel_rfl) ?_
  refine CW.seq fun K1 hK1 => ?_
  refine CW.region ?_
  refine WR.box (dst := some 2) (e := 22) (v := .slice ad1 m1 cap1) (by kernel_rfl) #[.slice ad1 m1 cap1] (by kernel_rfl) ?_
  intro g2 w3 hN4
  have hf6 : w.heap.size ≤ g2 := hN4.fresh
  have hc7 := hN4.chg
  have hz9 := hc7.size
  have hC8 := (Chg.refl [] w).pure hc7
  have hb5 := hN4.blk
  have hg10 := hb5.lt
  refine WR.box (dst := some 3) (e := 22) (v := .slice ad2 m2 cap2) (by kernel_rfl) #[.slice ad2 m2 cap2] (by kernel_rfl) ?_
  intro g11 w12 hN13
  have hl16 : g2 < g11 := Nat.lt_of_lt_of_le hb5.lt hN13.fresh
  have hf15 : w.heap.size ≤ g11 := Nat.le_trans hC8.size hN13.fresh
  have hc17 := hN13.chg
  have hz19 := hc17.size
  have hC18 := hC8.pure hc17
  have hb20 := hb5.pure hc17
  have hb14 := hN13.blk
  have hg21 := hb14.lt
  refine WR.batch 1 [(2, .pointer (some ⟨g2, 0, none⟩)), (3, .pointer (some ⟨g11, 0, none⟩))] (by kernel_rfl) ?_
  refine WR.fin (by kernel_rfl) ?_
  refine go hK1 ?_
  refine CW.seq fun K22 hK22 => ?_
  refine CW.region ?_
  refine WR.batch 1 [(8, .func (.func 33) #[] #[.pointer (some ⟨g2, 0, none⟩), .pointer (some ⟨g11, 0, none⟩)])] (by kernel_rfl) ?_
  refine WR.call (dst := some 9) (by kernel_rfl) (tried_Within_ok g2 g11 l w12 (fun w1 h1 => hc g2 g11 w1 (hC18.pure h1) (hb20.pure h1) (hb14.pure h1))) ?_
  rintro _ w23 hc24 rfl
  have hz26 := hc24.size
  have hC25 := hC18.pure hc24
  have hb27 := hb20.pure hc24
  have hb28 := hb14.pure hc24
  refine WR.batch 5 [(5, .bool l)] (by kernel_rfl) ?_
  refine WR.fin (by kernel_rfl) ?_
  refine go hK22 ?_
  refine CW.seq fun K29 hK29 => ?_
  refine CW.region ?_
  refine WR.batch 2 [(4, .bool l)] (by kernel_rfl) ?_
  refine WR.fin (by kernel_rfl) ?_
  refine go hK29 ?_
  refine CW.ret ?_
  exact retV (.bool l) (by kernel_rfl) ⟨hC25, rfl⟩

theorem row512 {w : World} {ad : Option Addr} {xs : List Bool} (h : Rg w ad (bo xs)) (hl : xs.length = 512) : ∃ b o, ad = some ⟨b, o, none⟩ := ⟨_, _, (h 0 _ (getMap _ xs 0 false (by omega))).1⟩
theorem Set_any (ad : Option Addr) (cap : Nat) (xs : List Bool) (at_ size : Int) (w : World) (hr : Rg w ad (bo xs)) : Calls Try.prog 9 #[.slice ad xs.length cap, .int .i64 at_, .int .i64 size] w (Ret [] w fun v w' => ∃ ad cap e, v = .tuple #[.slice ad (setL xs at_ size).length cap, .int .i64 (placeE xs.length at_ size)] ∧ Own w' w.heap.size e 1 ad (setL xs at_ size).length cap (bo (setL xs at_ size))) := by
  have bad : ∀ x : Int, x ≠ 0 → placeE xs.length at_ size = x → Calls Try.prog 9 #[.slice ad xs.length cap, .int .i64 at_, .int .i64 size] w (RetV w (.tuple #[.slice none 0 0, .int .i64 x])) → Calls Try.prog 9 #[.slice ad xs.length cap, .int .i64 at_, .int .i64 size] w (Ret [] w fun v w' => ∃ ad cap e, v = .tuple #[.slice ad (setL xs at_ size).length cap, .int .i64 (placeE xs.length at_ size)] ∧ Own w' w.heap.size e 1 ad (setL xs at_ size).length cap (bo (setL xs at_ size))) := by
    intro x hx he h
    refine h.mono ?_
    intro e w' h
    cases e with
    | returned v => obtain ⟨h1, rfl⟩ := h; refine ⟨h1, none, 0, 0, ?_, ?_⟩; rw [he, setL_no (by omega)]; rfl; rw [setL_no (by omega)]; exact Own.nil _ _ _ _
    | panicked ch => exact h.elim
    | outgrown => exact h
  by_cases hl : xs.length = 512
  · obtain ⟨b, o, rfl⟩ := row512 hr hl
    by_cases hs : size = 1 ∨ size = 2 ∨ size = 4 ∨ size = 8
    · by_cases hp : at_ < -512 ∨ at_ > -size
      · refine bad 112 (by decide) (by unfold placeE; rw [if_neg (by omega), if_pos hp]) (Set_pan _ _ _ _ _ _ _ fun g0 g1 g2 w' hc h0 h1 h2 => ?_)
        rw [hl] at h0
        exact Set1_at g0 g1 g2 b o cap xs at_ size w' h0 h1 h2 (hr.pure hc) hl hs hp
      · have h0 : placeE xs.length at_ size = 0 := by unfold placeE; rw [if_neg (by omega), if_neg hp]
        refine (Set_fine _ _ _ _ _ (setL xs at_ size) _ fun g0 g1 g2 w' hc hb0 hb1 hb2 => ?_).mono ?_
        · rw [hl] at hb0
          exact Set1_ok g0 g1 g2 b o cap xs at_ size w' hb0 hb1 hb2 (hr.pure hc) hl h0
        · rw [h0]; exact fun _ _ h => h
    · refine bad 2 (by decide) (by unfold placeE; rw [if_pos (by omega)]) (Set_pan _ _ _ _ _ _ _ fun g0 g1 g2 w' hc h0 h1 h2 => ?_)
      rw [hl] at h0
      exact Set1_size g0 g1 g2 b o cap xs at_ size w' h0 h1 h2 (hr.pure hc) hl hs
  · refine bad 2 (by decide) (by unfold placeE; rw [if_pos (by omega)]) (Set_pan _ _ _ _ _ _ _ fun g0 g1 g2 w' hc h0 h1 h2 => ?_)
    exact Set1_len g0 g1 g2 ad cap xs at_ size w' h0 h1 h2 hl
theorem Read_any (ad : Option Addr) (cap : Nat) (xs : List Bool) (at_ size : Int) (w : World) (hr : Rg w ad (bo xs)) : Calls Try.prog 13 #[.slice ad xs.length cap, .int .i64 at_, .int .i64 size] w (RetV w (.int .i64 (readE xs at_ size))) := by
  by_cases hl : xs.length = 512
  · obtain ⟨b, o, rfl⟩ := row512 hr hl
    by_cases hs : size = 1 ∨ size = 2 ∨ size = 4 ∨ size = 8
    · by_cases hp : at_ < -512 ∨ at_ > -size
      · have e : readE xs at_ size = 112 := by
          have : placeE xs.length at_ size = 112 := by unfold placeE; rw [if_neg (by omega), if_pos hp]
          rw [readE_no (by omega), this]
        rw [e]
        refine Read_pan _ _ _ _ _ _ _ fun g0 g1 g2 w' hc h0 h1 h2 => ?_
        rw [hl] at h0
        exact Read1_at g0 g1 g2 b o cap xs at_ size w' h0 h1 h2 (hr.pure hc) hl hs hp
      · have h0 : placeE xs.length at_ size = 0 := by unfold placeE; rw [if_neg (by omega), if_neg hp]
        cases hy : allB xs (at_ + 512).toNat size.toNat with
        | true =>
          have e : readE xs at_ size = 0 := by unfold readE; rw [if_neg (by omega), if_pos hy]
          rw [e]
          refine Read_fine _ _ _ _ _ true _ fun g0 g1 g2 w' hc hb0 hb1 hb2 => ?_
          rw [hl] at hb0
          exact Read1_ok g0 g1 g2 b o cap xs at_ size w' hb0 hb1 hb2 (hr.pure hc) hl h0 hy
        | false =>
          have e : readE xs at_ size = 110 := by unfold readE; rw [if_neg (by omega), if_neg (by rw [hy]; decide)]
          rw [e]
          refine Read_pan _ _ _ _ _ _ _ fun g0 g1 g2 w' hc hb0 hb1 hb2 => ?_
          rw [hl] at hb0
          exact Read1_unset g0 g1 g2 b o cap xs at_ size w' hb0 hb1 hb2 (hr.pure hc) hl h0 hy
    · have e : readE xs at_ size = 2 := by
        have : placeE xs.length at_ size = 2 := by unfold placeE; rw [if_pos (by omega)]
        rw [readE_no (by omega), this]
      rw [e]
      refine Read_pan _ _ _ _ _ _ _ fun g0 g1 g2 w' hc h0 h1 h2 => ?_
      rw [hl] at h0
      exact Read1_size g0 g1 g2 b o cap xs at_ size w' h0 h1 h2 (hr.pure hc) hl hs
  · have e : readE xs at_ size = 2 := by
      have : placeE xs.length at_ size = 2 := by unfold placeE; rw [if_pos (by omega)]
      rw [readE_no (by omega), this]
    rw [e]
    refine Read_pan _ _ _ _ _ _ _ fun g0 g1 g2 w' hc h0 h1 h2 => ?_
    exact Read1_len g0 g1 g2 ad cap xs at_ size w' h0 h1 h2 hl
theorem Within_any (ad1 ad2 : Option Addr) (cap1 cap2 : Nat) (xs ys : List Bool) (w : World) (h1 : Rg w ad1 (bo xs)) (h2 : Rg w ad2 (bo ys)) : Calls Try.prog 15 #[.slice ad1 xs.length cap1, .slice ad2 ys.length cap2] w (RetV w (.bool (withinE xs ys))) := by
  by_cases hl : xs.length = 512
  · obtain ⟨b, o, rfl⟩ := row512 h1 hl
    by_cases hk : ys.length = 512
    · obtain ⟨b', o', rfl⟩ := row512 h2 hk
      refine Within_fine _ _ _ _ _ _ (withinE xs ys) _ fun g0 g1 w' hc hb0 hb1 => ?_
      rw [hl] at hb0; rw [hk] at hb1
      exact Within1_ok g0 g1 b o cap1 xs b' o' cap2 ys w' hb0 hb1 (h1.pure hc) hl (h2.pure hc) hk
    · rw [withinE_no (.inr (by omega))]
      refine Within_pan _ _ _ _ _ _ 2 _ fun g0 g1 w' hc hb0 hb1 => ?_
      rw [hl] at hb0
      exact Within1_10 g0 g1 b o cap1 xs ad2 cap2 ys w' hb0 hb1 (h1.pure hc) hl hk
  · rw [withinE_no (.inl (by omega))]
    refine Within_pan _ _ _ _ _ _ 2 _ fun g0 g1 w' hc hb0 hb1 => ?_
    by_cases hk : ys.length = 512
    · obtain ⟨b', o', rfl⟩ := row512 h2 hk
      rw [hk] at hb1
      exact Within1_01 g0 g1 ad1 cap1 xs b' o' cap2 ys w' hb0 hb1 hl (h2.pure hc) hk
    · exact Within1_00 g0 g1 ad1 cap1 xs ad2 cap2 ys w' hb0 hb1 hl hk
theorem Join_any (ad1 ad2 : Option Addr) (cap1 cap2 : Nat) (xs ys : List Bool) (w : World) (h1 : Rg w ad1 (bo xs)) (h2 : Rg w ad2 (bo ys)) : Calls Try.prog 11 #[.slice ad1 xs.length cap1, .slice ad2 ys.length cap2] w (Ret [] w fun v w' => OwnB w.heap.size (joinL xs ys) v w') := by
  have bad : ((xs.length : Int) ≠ 512 ∨ (ys.length : Int) ≠ 512) → Calls Try.prog 11 #[.slice ad1 xs.length cap1, .slice ad2 ys.length cap2] w (RetV w (.slice none 0 0)) → Calls Try.prog 11 #[.slice ad1 xs.length cap1, .slice ad2 ys.length cap2] w (Ret [] w fun v w' => OwnB w.heap.size (joinL xs ys) v w') := by
    intro hx h
    refine h.mono ?_
    intro e w' h
    cases e with
    | returned v => obtain ⟨h1, rfl⟩ := h; rw [joinL_no hx]; exact ⟨h1, none, 0, 0, rfl, Own.nil _ _ _ _⟩
    | panicked ch => exact h.elim
    | outgrown => exact h
  by_cases hl : xs.length = 512
  · obtain ⟨b, o, rfl⟩ := row512 h1 hl
    by_cases hk : ys.length = 512
    · obtain ⟨b', o', rfl⟩ := row512 h2 hk
      refine Join_fine _ _ _ _ _ _ (joinL xs ys) _ fun g0 g1 w' hc hb0 hb1 => ?_
      rw [hl] at hb0; rw [hk] at hb1
      exact Join1_ok g0 g1 b o cap1 xs b' o' cap2 ys w' hb0 hb1 (h1.pure hc) hl (h2.pure hc) hk
    · refine bad (.inr (by omega)) (Join_pan _ _ _ _ _ _ 2 _ fun g0 g1 w' hc hb0 hb1 => ?_)
      rw [hl] at hb0
      exact Join1_10 g0 g1 b o cap1 xs ad2 cap2 ys w' hb0 hb1 (h1.pure hc) hl hk
  · refine bad (.inl (by omega)) (Join_pan _ _ _ _ _ _ 2 _ fun g0 g1 w' hc hb0 hb1 => ?_)
    by_cases hk : ys.length = 512
    · obtain ⟨b', o', rfl⟩ := row512 h2 hk
      rw [hk] at hb1
      exact Join1_01 g0 g1 ad1 cap1 xs b' o' cap2 ys w' hb0 hb1 hl (h2.pure hc) hk
    · exact Join1_00 g0 g1 ad1 cap1 xs ad2 cap2 ys w' hb0 hb1 hl hk

theorem New_any (w : World) : Calls Try.prog 18 #[] w (Ret [] w fun v w' => OwnB w.heap.size newL v w') := by
  refine calls_of_CW Try.func18 rfl (n := 2) Try.ntmps18 (by kernel_rfl) [] (F := []) (by kernel_rfl) ?_
  refine CW.seq fun K1 hK1 => ?_
  refine CW.region ?_
  refine WR.batch 1 [] (by kernel_rfl) ?_
  refine WR.fin (by kernel_rfl) ?_
  refine go hK1 ?_
  refine CW.seq fun K2 hK2 => ?_
  refine CW.region ?_
  refine WR.make (dst := some 1) (t := 22) (e := 4) (kl := .i64) (kc := .i64) (l := (512 : Int)) (c := (512 : Int)) (sz := 1) (by_ := 1) (zc := #[.bool false]) (by kernel_rfl) (by kernel_rfl) (512) (512) (by omega) (by omega) (by omega) (by omega) (by omega) ?_
  intro g3 w4 hN5
  have hf7 := hN5.fresh
  have hc8 := hN5.chg
  have hz10 := hc8.size
  have hC9 := (Chg.refl [] w).pure hc8
  have ho6 : Own w4 w.heap.size 4 1 (some ⟨g3, 0, none⟩) (512) (512) (bo (List.replicate (512) false)) := by rw [boRep, ← made1 _ _ (512) (by omega)]; exact Own.made hN5 (m := 512) (by omega) (by omega)
  refine WR.batch 1 [(0, .slice (some ⟨g3, 0, none⟩) 512 512)] (by kernel_rfl) ?_
  refine WR.fin (by kernel_rfl) ?_
  refine go hK2 ?_
  refine CW.ret ?_
  exact retV (.slice (some ⟨g3, 0, none⟩) 512 512) (by kernel_rfl) ⟨hC9, ⟨(some ⟨g3, 0, none⟩), 512, _, by rw [newL_len], by rw [newL_len]; exact ho6⟩⟩
end Go.V
