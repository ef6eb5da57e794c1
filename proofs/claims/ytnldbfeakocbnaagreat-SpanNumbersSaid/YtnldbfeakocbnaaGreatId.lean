/- What questions leave of spans; the law. -/
import Derived.Test.YtnldbfeakocbnaaGreatIc
namespace Go.X
open Go.RowKit Go.V Go.Proofs
noncomputable def span_work_set_g1_C : Ctx TT := ⟨tyOf, [(71, span_work_both_sp.toCall), (68, span_must_g1_sp.toCall (noCall TT))], 0, [(4, 1), (6, 1)], layOf⟩
theorem span_work_set_g1_env : EnvOk TT Tryz.prog span_work_set_g1_C.E := envG (fnCall_ok span_work_both_ok) (envG (pCall_ok span_must_g1_ok (noCall_ok 68)) (envNil))
def span_work_set_g1_cuts : List (Pos × Cut) := [([false, true, false, true, true], ⟨[2, 4, 5], [], false, []⟩), ([true, true, true], ⟨[2, 4, 5], [], false, []⟩)]
noncomputable def span_work_set_g1 (n : Nat) (x0 : Work) (x1 : Bool) : Option ((Unit) × ((Span × Span × Unit) ⊕ (Unit × Unit))) := topP TT Tryz.prog span_work_set_g1_C span_work_set_g1_cuts Tryz.f63 (bodyOf Tryz.f63) ⟨[], [], [], [], []⟩ [.val (.user 1), .val (.bool)] [] [.val (.user 0), .val (.user 0)] (.ifc 50 (.agg [])) n (x0, x1, ())
noncomputable def span_work_set_g1_J0 (n : Nat) (b0_0 : Int) (b0_1 : Int) (b0_2 : Int) (b0_3 : Int) (b0_4 : Bool) (b0_5 : Int) (b0_6 : Int) (b1_0 : Int) (b1_1 : Int) (b2_0 : Int) (b2_1 : Int) : Option ((Unit) × ((Span × Span × Unit) ⊕ (Unit × Unit))) := cutP TT Tryz.prog span_work_set_g1_C span_work_set_g1_cuts Tryz.f63 (bodyOf Tryz.f63) ⟨[], [], [], [], []⟩ [] [.val (.user 0), .val (.user 0)] (.ifc 50 (.agg [])) n [false, true, false, true, true] ⟨[(2, .ptr 0 0), (4, .ptr 1 0), (5, .ptr 2 0)], [.blk 53 [.cell ⟨.int .u64, b0_0⟩, .cell ⟨.int .u64, b0_1⟩, .cell ⟨.int .u64, b0_2⟩, .cell ⟨.int .u64, b0_3⟩, .cell ⟨.bool, b0_4⟩, .cell ⟨.int .u64, b0_5⟩, .cell ⟨.int .u64, b0_6⟩], .blk 27 [.cell ⟨.int .u64, b1_0⟩, .cell ⟨.int .u64, b1_1⟩], .blk 27 [.cell ⟨.int .u64, b2_0⟩, .cell ⟨.int .u64, b2_1⟩]]⟩
noncomputable def span_work_set_g1_J1 (n : Nat) (b0_0 : Int) (b0_1 : Int) (b0_2 : Int) (b0_3 : Int) (b0_4 : Bool) (b0_5 : Int) (b0_6 : Int) (b1_0 : Int) (b1_1 : Int) (b2_0 : Int) (b2_1 : Int) : Option ((Unit) × ((Span × Span × Unit) ⊕ (Unit × Unit))) := cutP TT Tryz.prog span_work_set_g1_C span_work_set_g1_cuts Tryz.f63 (bodyOf Tryz.f63) ⟨[], [], [], [], []⟩ [] [.val (.user 0), .val (.user 0)] (.ifc 50 (.agg [])) n [true, true, true] ⟨[(2, .ptr 0 0), (4, .ptr 1 0), (5, .ptr 2 0)], [.blk 53 [.cell ⟨.int .u64, b0_0⟩, .cell ⟨.int .u64, b0_1⟩, .cell ⟨.int .u64, b0_2⟩, .cell ⟨.int .u64, b0_3⟩, .cell ⟨.bool, b0_4⟩, .cell ⟨.int .u64, b0_5⟩, .cell ⟨.int .u64, b0_6⟩], .blk 27 [.cell ⟨.int .u64, b1_0⟩, .cell ⟨.int .u64, b1_1⟩], .blk 27 [.cell ⟨.int .u64, b2_0⟩, .cell ⟨.int .u64, b2_1⟩]]⟩
theorem span_work_set_g1_eq (n : Nat) (x0 : Work) (x1 : Bool) : span_work_set_g1 n x0 x1 =
  forkB (!x1)
  (obind (span_work_both BIG x0) fun y1 =>
   forkB (!y1)
   (obind (span_must_g1 BIG true) fun y2 => match y2.2 with
    | .inl z2 => (span_work_set_g1_J0 n x0.a_Lo x0.a_Hi x0.b_Lo x0.b_Hi x0.narrow x0.most x0.size (0 : Int) (0 : Int) (0 : Int) (0 : Int))
    | .inr e2 => (some ((), .inr ((), ()))))
   (obind (span_must_g1 BIG (!((bAnd .u64 x0.a_Lo x0.b_Lo) != (0 : Int)))) fun y3 => match y3.2 with
    | .inl z3 => (span_work_set_g1_J0 n x0.a_Lo x0.a_Hi x0.b_Lo x0.b_Hi x0.narrow x0.most x0.size (0 : Int) (0 : Int) (0 : Int) (0 : Int))
    | .inr e3 => (some ((), .inr ((), ())))))
  (forkB (decide (x0.a_Hi > (0 : Int)))
   (forkB (decide (x0.b_Hi > (0 : Int)))
    (obind (span_work_both BIG x0) fun y4 =>
     forkB (!y4)
     (obind (span_must_g1 BIG true) fun y5 => match y5.2 with
      | .inl z5 => (span_work_set_g1_J1 n x0.a_Lo x0.a_Hi x0.b_Lo x0.b_Hi x0.narrow x0.most x0.size (0 : Int) (0 : Int) (0 : Int) (0 : Int))
      | .inr e5 => (some ((), .inr ((), ()))))
     (obind (span_must_g1 BIG ((bAnd .u64 x0.a_Lo x0.b_Lo) != (0 : Int))) fun y6 => match y6.2 with
      | .inl z6 => (span_work_set_g1_J1 n x0.a_Lo x0.a_Hi x0.b_Lo x0.b_Hi x0.narrow x0.most x0.size (0 : Int) (0 : Int) (0 : Int) (0 : Int))
      | .inr e6 => (some ((), .inr ((), ())))))
    (obind (span_must_g1 BIG false) fun y7 => match y7.2 with
     | .inl z7 => (span_work_set_g1_J1 n x0.a_Lo x0.a_Hi x0.b_Lo x0.b_Hi x0.narrow x0.most x0.size (0 : Int) (0 : Int) (0 : Int) (0 : Int))
     | .inr e7 => (some ((), .inr ((), ())))))
   (obind (span_must_g1 BIG false) fun y8 => match y8.2 with
    | .inl z8 => (span_work_set_g1_J1 n x0.a_Lo x0.a_Hi x0.b_Lo x0.b_Hi x0.narrow x0.most x0.size (0 : Int) (0 : Int) (0 : Int) (0 : Int))
    | .inr e8 => (some ((), .inr ((), ()))))) := by kernel_rfl
theorem span_work_set_g1_J0_eq (n : Nat) (b0_0 : Int) (b0_1 : Int) (b0_2 : Int) (b0_3 : Int) (b0_4 : Bool) (b0_5 : Int) (b0_6 : Int) (b1_0 : Int) (b1_1 : Int) (b2_0 : Int) (b2_1 : Int) : span_work_set_g1_J0 (n + 1) b0_0 b0_1 b0_2 b0_3 b0_4 b0_5 b0_6 b1_0 b1_1 b2_0 b2_1 =
  some ((), .inl ((⟨b0_0, b0_1⟩ : Span), (⟨b0_2, b0_3⟩ : Span), ())) := by kernel_rfl
theorem span_work_set_g1_J1_eq (n : Nat) (b0_0 : Int) (b0_1 : Int) (b0_2 : Int) (b0_3 : Int) (b0_4 : Bool) (b0_5 : Int) (b0_6 : Int) (b1_0 : Int) (b1_1 : Int) (b2_0 : Int) (b2_1 : Int) : span_work_set_g1_J1 (n + 1) b0_0 b0_1 b0_2 b0_3 b0_4 b0_5 b0_6 b1_0 b1_1 b2_0 b2_1 =
  some ((), .inl ((⟨gMax b0_0 (1 : Int), b0_1⟩ : Span), (⟨gMax b0_2 (1 : Int), b0_3⟩ : Span), ())) := by kernel_rfl
noncomputable def span_work_set_g1_sp : PSpec TT := ⟨[.val (.user 1), .val (.bool)], [], [.val (.user 0), .val (.user 0)], .ifc 50 (.agg []), fun x => span_work_set_g1 BIG x.1 x.2.1⟩
theorem span_work_set_g1_ok : POk TT Tryz.prog 63 span_work_set_g1_sp := pOk_of (C := span_work_set_g1_C) (cuts := span_work_set_g1_cuts) (by kernel_rfl) span_work_set_g1_env Tryz.func63 (show Tryz.f63.body = some (bodyOf Tryz.f63) by kernel_rfl) (by kernel_rfl) (by kernel_rfl) (by kernel_rfl) fun x y h => ⟨BIG, h⟩
noncomputable def span_opposites_g1_C : Ctx TT := ⟨tyOf, [], 0, [], layOf⟩
theorem span_opposites_g1_env : EnvOk TT Tryz.prog span_opposites_g1_C.E := envNil
def span_opposites_g1_cuts : List (Pos × Cut) := []
noncomputable def span_opposites_g1 (n : Nat)  : Option ((Unit) × (List Int × Unit)) := topG TT Tryz.prog span_opposites_g1_C span_opposites_g1_cuts Tryz.f64 (bodyOf Tryz.f64) ⟨[], [], [], [], []⟩ [] [] [.arr (.int .u8) 28] n ()
theorem span_opposites_g1_eq (n : Nat)  : span_opposites_g1 n  =
  some ((), (([(0 : Int), (0 : Int), (0 : Int), (0 : Int), (0 : Int), (0 : Int), (0 : Int), (0 : Int), (0 : Int), (0 : Int), (0 : Int), (0 : Int), (0 : Int), (0 : Int), (0 : Int), (0 : Int), (0 : Int), (18 : Int), (17 : Int), (22 : Int), (21 : Int), (20 : Int), (19 : Int), (26 : Int), (25 : Int), (24 : Int), (23 : Int), (27 : Int)] : List Int), ())) := by kernel_rfl
noncomputable def span_opposites_g1_sp : GSpec TT := ⟨[], [], [.arr (.int .u8) 28], fun _ => span_opposites_g1 BIG ⟩
theorem span_opposites_g1_ok : GOk TT Tryz.prog 64 span_opposites_g1_sp := gOk_of (C := span_opposites_g1_C) (cuts := span_opposites_g1_cuts) (by kernel_rfl) span_opposites_g1_env Tryz.func64 (show Tryz.f64.body = some (bodyOf Tryz.f64) by kernel_rfl) (by kernel_rfl) (by kernel_rfl) (by kernel_rfl) fun x y h => ⟨BIG, h⟩
noncomputable def spanMeet_C : Ctx TT := ⟨tyOf, [(23, spanRight_sp.toCall)], 0, [], layOf⟩
theorem spanMeet_env : EnvOk TT Tryz.prog spanMeet_C.E := envG (fnCall_ok spanRight_ok) (envNil)
def spanMeet_cuts : List (Pos × Cut) := []
noncomputable def spanMeet (n : Nat) (x0 : Span) (x1 : Span) : Option (Span × Bool) := topF TT Tryz.prog spanMeet_C spanMeet_cuts Tryz.f15 (bodyOf Tryz.f15) ⟨[], []⟩ [.val (.user 0), .val (.user 0)] [.val (.user 0), .val (.bool)] n (x0, x1)
theorem spanMeet_eq (n : Nat) (x0 : Span) (x1 : Span) : spanMeet n x0 x1 =
  obind (spanRight BIG (⟨gMax x0.Lo x1.Lo, gMin x0.Hi x1.Hi⟩ : Span)) fun y1 =>
  forkB (!y1)
  (some ((⟨(0 : Int), (0 : Int)⟩ : Span), false))
  (some ((⟨gMax x0.Lo x1.Lo, gMin x0.Hi x1.Hi⟩ : Span), true)) := by kernel_rfl
noncomputable def spanMeet_sp : FnSpec TT := ⟨[.val (.user 0), .val (.user 0)], [.val (.user 0), .val (.bool)], fun x => spanMeet BIG x.1 x.2⟩
theorem spanMeet_ok : FnOk TT Tryz.prog 15 spanMeet_sp := fnOk_of (C := spanMeet_C) (by kernel_rfl) spanMeet_env Tryz.func15 (show Tryz.f15.body = some (bodyOf Tryz.f15) by kernel_rfl) (by kernel_rfl) (by kernel_rfl) (cuts := spanMeet_cuts) fun x y h => ⟨BIG, h⟩
noncomputable def span_work_turned_C : Ctx TT := ⟨tyOf, [], 0, [], layOf⟩
theorem span_work_turned_env : EnvOk TT Tryz.prog span_work_turned_C.E := envNil
def span_work_turned_cuts : List (Pos × Cut) := []
noncomputable def span_work_turned (n : Nat) (x0 : Work) : Option (Work) := topF TT Tryz.prog span_work_turned_C span_work_turned_cuts Tryz.f81 (bodyOf Tryz.f81) ⟨[], []⟩ [.val (.user 1)] [.val (.user 1)] n x0
theorem span_work_turned_eq (n : Nat) (x0 : Work) : span_work_turned n x0 =
  some (⟨x0.b_Lo, x0.b_Hi, x0.a_Lo, x0.a_Hi, x0.narrow, x0.most, x0.size⟩ : Work) := by kernel_rfl
noncomputable def span_work_turned_sp : FnSpec TT := ⟨[.val (.user 1)], [.val (.user 1)], fun x => span_work_turned BIG x⟩
theorem span_work_turned_ok : FnOk TT Tryz.prog 81 span_work_turned_sp := fnOk_of (C := span_work_turned_C) (by kernel_rfl) span_work_turned_env Tryz.func81 (show Tryz.f81.body = some (bodyOf Tryz.f81) by kernel_rfl) (by kernel_rfl) (by kernel_rfl) (cuts := span_work_turned_cuts) fun x y h => ⟨BIG, h⟩
noncomputable def span_without_C : Ctx TT := ⟨tyOf, [(73, span_one_sp.toCall)], 0, [], layOf⟩
theorem span_without_env : EnvOk TT Tryz.prog span_without_C.E := envG (fnCall_ok span_one_ok) (envNil)
def span_without_cuts : List (Pos × Cut) := [([false, true], ⟨[2, 3, 4, 11], [], false, []⟩), ([true, true], ⟨[2, 3, 4], [], false, []⟩)]
noncomputable def span_without (n : Nat) (x0 : Span) (x1 : Span) : Option (Span) := topF TT Tryz.prog span_without_C span_without_cuts Tryz.f80 (bodyOf Tryz.f80) ⟨[], []⟩ [.val (.user 0), .val (.user 0)] [.val (.user 0)] n (x0, x1)
noncomputable def span_without_J0 (n : Nat) (s11 : Bool) (b0_0 : Int) (b0_1 : Int) (b1_0 : Int) (b1_1 : Int) (b2_0 : Int) (b2_1 : Int) : Option (Span) := cutF TT Tryz.prog span_without_C span_without_cuts Tryz.f80 (bodyOf Tryz.f80) ⟨[], []⟩ [.val (.user 0), .val (.user 0)] [.val (.user 0)] n [false, true] ⟨[(2, .ptr 0 0), (3, .ptr 1 0), (4, .ptr 2 0), (11, .cell ⟨.bool, s11⟩)], [.blk 27 [.cell ⟨.int .u64, b0_0⟩, .cell ⟨.int .u64, b0_1⟩], .blk 27 [.cell ⟨.int .u64, b1_0⟩, .cell ⟨.int .u64, b1_1⟩], .blk 27 [.cell ⟨.int .u64, b2_0⟩, .cell ⟨.int .u64, b2_1⟩]]⟩
noncomputable def span_without_J1 (n : Nat) (b0_0 : Int) (b0_1 : Int) (b1_0 : Int) (b1_1 : Int) (b2_0 : Int) (b2_1 : Int) : Option (Span) := cutF TT Tryz.prog span_without_C span_without_cuts Tryz.f80 (bodyOf Tryz.f80) ⟨[], []⟩ [.val (.user 0), .val (.user 0)] [.val (.user 0)] n [true, true] ⟨[(2, .ptr 0 0), (3, .ptr 1 0), (4, .ptr 2 0)], [.blk 27 [.cell ⟨.int .u64, b0_0⟩, .cell ⟨.int .u64, b0_1⟩], .blk 27 [.cell ⟨.int .u64, b1_0⟩, .cell ⟨.int .u64, b1_1⟩], .blk 27 [.cell ⟨.int .u64, b2_0⟩, .cell ⟨.int .u64, b2_1⟩]]⟩
theorem span_without_eq (n : Nat) (x0 : Span) (x1 : Span) : span_without n x0 x1 =
  obind (span_one BIG x0) fun y1 =>
  forkB y1
  (span_without_J0 n true x0.Lo x0.Hi x1.Lo x1.Hi (0 : Int) (0 : Int))
  (obind (span_one BIG x1) fun y2 =>
   span_without_J0 n (!y2) x0.Lo x0.Hi x1.Lo x1.Hi (0 : Int) (0 : Int)) := by kernel_rfl
theorem span_without_J0_eq (n : Nat) (s11 : Bool) (b0_0 : Int) (b0_1 : Int) (b1_0 : Int) (b1_1 : Int) (b2_0 : Int) (b2_1 : Int) : span_without_J0 (n + 1) s11 b0_0 b0_1 b1_0 b1_1 b2_0 b2_1 =
  forkB s11
  (some (⟨b0_0, b0_1⟩ : Span))
  (forkB (b0_0 == b1_0)
   (span_without_J1 n (IntKind.u64.wrap (b0_0 + (1 : Int))) b0_1 b1_0 b1_1 b2_0 b2_1)
   (span_without_J1 n b0_0 b0_1 b1_0 b1_1 b2_0 b2_1)) := by kernel_rfl
theorem span_without_J1_eq (n : Nat) (b0_0 : Int) (b0_1 : Int) (b1_0 : Int) (b1_1 : Int) (b2_0 : Int) (b2_1 : Int) : span_without_J1 (n + 1) b0_0 b0_1 b1_0 b1_1 b2_0 b2_1 =
  forkB (b0_1 == b1_0)
  (some (⟨b0_0, IntKind.u64.wrap (b0_1 - (1 : Int))⟩ : Span))
  (some (⟨b0_0, b0_1⟩ : Span)) := by kernel_rfl
noncomputable def span_without_sp : FnSpec TT := ⟨[.val (.user 0), .val (.user 0)], [.val (.user 0)], fun x => span_without BIG x.1 x.2⟩
theorem span_without_ok : FnOk TT Tryz.prog 80 span_without_sp := fnOk_of (C := span_without_C) (by kernel_rfl) span_without_env Tryz.func80 (show Tryz.f80.body = some (bodyOf Tryz.f80) by kernel_rfl) (by kernel_rfl) (by kernel_rfl) (cuts := span_without_cuts) fun x y h => ⟨BIG, h⟩
noncomputable def span_work_plain_g1_r_C : Ctx TT := ⟨tyOf, [(15, spanMeet_sp.toCall), (68, span_must_g1_sp.toCall (noCall TT)), (71, span_work_both_sp.toCall), (81, span_work_turned_sp.toCall), (80, span_without_sp.toCall)], 0, [(5, 1), (8, 1), (11, 1), (14, 1), (19, 1)], layOf⟩
theorem span_work_plain_g1_r_env : EnvOk TT Tryz.prog span_work_plain_g1_r_C.E := envG (fnCall_ok spanMeet_ok) (envG (pCall_ok span_must_g1_ok (noCall_ok 68)) (envG (fnCall_ok span_work_both_ok) (envG (fnCall_ok span_work_turned_ok) (envG (fnCall_ok span_without_ok) (envNil)))))
def span_work_plain_g1_r_cuts : List (Pos × Cut) := [([false, true, true, true, false, true, false, true], ⟨[2, 4, 5], [], false, []⟩)]
noncomputable def span_work_plain_g1_r (n : Nat) (x0 : Work) (x1 : Int) : Option ((Unit) × ((Span × Span × Unit) ⊕ (Unit × Unit))) := topP TT Tryz.prog span_work_plain_g1_r_C span_work_plain_g1_r_cuts Tryz.f66 (bodyOf Tryz.f66) ⟨[], [], [], [], []⟩ [.val (.user 1), .val (.int .u8)] [] [.val (.user 0), .val (.user 0)] (.ifc 50 (.agg [])) n (x0, x1, ())
noncomputable def span_work_plain_g1_r_J0 (n : Nat) (b0_0 : Int) (b0_1 : Int) (b0_2 : Int) (b0_3 : Int) (b0_4 : Bool) (b0_5 : Int) (b0_6 : Int) (b1_0 : Int) (b1_1 : Int) (b2_0 : Int) (b2_1 : Int) : Option ((Unit) × ((Span × Span × Unit) ⊕ (Unit × Unit))) := cutP TT Tryz.prog span_work_plain_g1_r_C span_work_plain_g1_r_cuts Tryz.f66 (bodyOf Tryz.f66) ⟨[], [], [], [], []⟩ [] [.val (.user 0), .val (.user 0)] (.ifc 50 (.agg [])) n [false, true, true, true, false, true, false, true] ⟨[(2, .ptr 0 0), (4, .ptr 1 0), (5, .ptr 2 0)], [.blk 53 [.cell ⟨.int .u64, b0_0⟩, .cell ⟨.int .u64, b0_1⟩, .cell ⟨.int .u64, b0_2⟩, .cell ⟨.int .u64, b0_3⟩, .cell ⟨.bool, b0_4⟩, .cell ⟨.int .u64, b0_5⟩, .cell ⟨.int .u64, b0_6⟩], .blk 27 [.cell ⟨.int .u64, b1_0⟩, .cell ⟨.int .u64, b1_1⟩], .blk 27 [.cell ⟨.int .u64, b2_0⟩, .cell ⟨.int .u64, b2_1⟩]]⟩
theorem span_work_plain_g1_r_eq (n : Nat) (x0 : Work) (x1 : Int) : span_work_plain_g1_r n x0 x1 =
  forkB (x1 == (17 : Int))
  (obind (spanMeet BIG (⟨x0.a_Lo, x0.a_Hi⟩ : Span) (⟨x0.b_Lo, x0.b_Hi⟩ : Span)) fun y1 =>
   obind (span_must_g1 BIG y1.2) fun y2 => match y2.2 with
   | .inl z2 => (some ((), .inl (y1.1, y1.1, ())))
   | .inr e2 => (some ((), .inr ((), ()))))
  (forkB (x1 == (18 : Int))
   (obind (span_work_both BIG x0) fun y3 =>
    forkB (!y3)
    (obind (span_must_g1 BIG true) fun y4 => match y4.2 with
     | .inl z4 => (span_work_plain_g1_r_J0 n x0.a_Lo x0.a_Hi x0.b_Lo x0.b_Hi x0.narrow x0.most x0.size (0 : Int) (0 : Int) (0 : Int) (0 : Int))
     | .inr e4 => (some ((), .inr ((), ()))))
    (obind (span_must_g1 BIG (!((x0.a_Lo == x0.b_Lo) && (x0.a_Hi == x0.b_Hi)))) fun y5 => match y5.2 with
     | .inl z5 => (span_work_plain_g1_r_J0 n x0.a_Lo x0.a_Hi x0.b_Lo x0.b_Hi x0.narrow x0.most x0.size (0 : Int) (0 : Int) (0 : Int) (0 : Int))
     | .inr e5 => (some ((), .inr ((), ())))))
   (forkB (x1 == (19 : Int))
    (obind (span_must_g1 BIG (decide (x0.a_Hi > x0.b_Lo))) fun y6 => match y6.2 with
     | .inl z6 => (some ((), .inl ((⟨gMax x0.a_Lo (IntKind.u64.wrap (x0.b_Lo + (1 : Int))), x0.a_Hi⟩ : Span), (⟨x0.b_Lo, gMin x0.b_Hi (IntKind.u64.wrap (x0.a_Hi - (1 : Int)))⟩ : Span), ())))
     | .inr e6 => (some ((), .inr ((), ()))))
    (forkB (x1 == (20 : Int))
     (obind (span_must_g1 BIG (decide (x0.a_Hi ≥ x0.b_Lo))) fun y7 => match y7.2 with
      | .inl z7 => (some ((), .inl ((⟨gMax x0.a_Lo x0.b_Lo, x0.a_Hi⟩ : Span), (⟨x0.b_Lo, gMin x0.b_Hi x0.a_Hi⟩ : Span), ())))
      | .inr e7 => (some ((), .inr ((), ()))))
     (forkB (x1 == (21 : Int))
      (obind (span_work_turned BIG x0) fun y8 =>
       none)
      (forkB (x1 == (22 : Int))
       (obind (span_work_turned BIG x0) fun y9 =>
        none)
       (some ((), .inl ((⟨(0 : Int), (0 : Int)⟩ : Span), (⟨(0 : Int), (0 : Int)⟩ : Span), ())))))))) := by kernel_rfl
theorem span_work_plain_g1_r_J0_eq (n : Nat) (b0_0 : Int) (b0_1 : Int) (b0_2 : Int) (b0_3 : Int) (b0_4 : Bool) (b0_5 : Int) (b0_6 : Int) (b1_0 : Int) (b1_1 : Int) (b2_0 : Int) (b2_1 : Int) : span_work_plain_g1_r_J0 (n + 1) b0_0 b0_1 b0_2 b0_3 b0_4 b0_5 b0_6 b1_0 b1_1 b2_0 b2_1 =
  obind (span_without BIG (⟨b0_0, b0_1⟩ : Span) (⟨b0_2, b0_3⟩ : Span)) fun y1 =>
  obind (span_without BIG (⟨b0_2, b0_3⟩ : Span) (⟨b0_0, b0_1⟩ : Span)) fun y2 =>
  some ((), .inl (y1, y2, ())) := by kernel_rfl
noncomputable def span_work_plain_g1_r_sp : PSpec TT := ⟨[.val (.user 1), .val (.int .u8)], [], [.val (.user 0), .val (.user 0)], .ifc 50 (.agg []), fun x => span_work_plain_g1_r BIG x.1 x.2.1⟩
theorem span_work_plain_g1_r_ok : POk TT Tryz.prog 66 span_work_plain_g1_r_sp := pOk_of (C := span_work_plain_g1_r_C) (cuts := span_work_plain_g1_r_cuts) (by kernel_rfl) span_work_plain_g1_r_env Tryz.func66 (show Tryz.f66.body = some (bodyOf Tryz.f66) by kernel_rfl) (by kernel_rfl) (by kernel_rfl) (by kernel_rfl) fun x y h => ⟨BIG, h⟩
noncomputable def span_work_plain_g1_C : Ctx TT := ⟨tyOf, [(15, spanMeet_sp.toCall), (68, span_must_g1_sp.toCall (noCall TT)), (71, span_work_both_sp.toCall), (81, span_work_turned_sp.toCall), (66, span_work_plain_g1_r_sp.toCall (noCall TT)), (80, span_without_sp.toCall)], 0, [(5, 1), (8, 1), (11, 1), (14, 1), (19, 1)], layOf⟩
theorem span_work_plain_g1_env : EnvOk TT Tryz.prog span_work_plain_g1_C.E := envG (fnCall_ok spanMeet_ok) (envG (pCall_ok span_must_g1_ok (noCall_ok 68)) (envG (fnCall_ok span_work_both_ok) (envG (fnCall_ok span_work_turned_ok) (envG (pCall_ok span_work_plain_g1_r_ok (noCall_ok 66)) (envG (fnCall_ok span_without_ok) (envNil))))))
def span_work_plain_g1_cuts : List (Pos × Cut) := [([false, true, true, true, false, true, false, true], ⟨[2, 4, 5], [], false, []⟩)]
noncomputable def span_work_plain_g1 (n : Nat) (x0 : Work) (x1 : Int) : Option ((Unit) × ((Span × Span × Unit) ⊕ (Unit × Unit))) := topP TT Tryz.prog span_work_plain_g1_C span_work_plain_g1_cuts Tryz.f66 (bodyOf Tryz.f66) ⟨[], [], [], [], []⟩ [.val (.user 1), .val (.int .u8)] [] [.val (.user 0), .val (.user 0)] (.ifc 50 (.agg [])) n (x0, x1, ())
noncomputable def span_work_plain_g1_J0 (n : Nat) (b0_0 : Int) (b0_1 : Int) (b0_2 : Int) (b0_3 : Int) (b0_4 : Bool) (b0_5 : Int) (b0_6 : Int) (b1_0 : Int) (b1_1 : Int) (b2_0 : Int) (b2_1 : Int) : Option ((Unit) × ((Span × Span × Unit) ⊕ (Unit × Unit))) := cutP TT Tryz.prog span_work_plain_g1_C span_work_plain_g1_cuts Tryz.f66 (bodyOf Tryz.f66) ⟨[], [], [], [], []⟩ [] [.val (.user 0), .val (.user 0)] (.ifc 50 (.agg [])) n [false, true, true, true, false, true, false, true] ⟨[(2, .ptr 0 0), (4, .ptr 1 0), (5, .ptr 2 0)], [.blk 53 [.cell ⟨.int .u64, b0_0⟩, .cell ⟨.int .u64, b0_1⟩, .cell ⟨.int .u64, b0_2⟩, .cell ⟨.int .u64, b0_3⟩, .cell ⟨.bool, b0_4⟩, .cell ⟨.int .u64, b0_5⟩, .cell ⟨.int .u64, b0_6⟩], .blk 27 [.cell ⟨.int .u64, b1_0⟩, .cell ⟨.int .u64, b1_1⟩], .blk 27 [.cell ⟨.int .u64, b2_0⟩, .cell ⟨.int .u64, b2_1⟩]]⟩
theorem span_work_plain_g1_eq (n : Nat) (x0 : Work) (x1 : Int) : span_work_plain_g1 n x0 x1 =
  forkB (x1 == (17 : Int))
  (obind (spanMeet BIG (⟨x0.a_Lo, x0.a_Hi⟩ : Span) (⟨x0.b_Lo, x0.b_Hi⟩ : Span)) fun y1 =>
   obind (span_must_g1 BIG y1.2) fun y2 => match y2.2 with
   | .inl z2 => (some ((), .inl (y1.1, y1.1, ())))
   | .inr e2 => (some ((), .inr ((), ()))))
  (forkB (x1 == (18 : Int))
   (obind (span_work_both BIG x0) fun y3 =>
    forkB (!y3)
    (obind (span_must_g1 BIG true) fun y4 => match y4.2 with
     | .inl z4 => (span_work_plain_g1_J0 n x0.a_Lo x0.a_Hi x0.b_Lo x0.b_Hi x0.narrow x0.most x0.size (0 : Int) (0 : Int) (0 : Int) (0 : Int))
     | .inr e4 => (some ((), .inr ((), ()))))
    (obind (span_must_g1 BIG (!((x0.a_Lo == x0.b_Lo) && (x0.a_Hi == x0.b_Hi)))) fun y5 => match y5.2 with
     | .inl z5 => (span_work_plain_g1_J0 n x0.a_Lo x0.a_Hi x0.b_Lo x0.b_Hi x0.narrow x0.most x0.size (0 : Int) (0 : Int) (0 : Int) (0 : Int))
     | .inr e5 => (some ((), .inr ((), ())))))
   (forkB (x1 == (19 : Int))
    (obind (span_must_g1 BIG (decide (x0.a_Hi > x0.b_Lo))) fun y6 => match y6.2 with
     | .inl z6 => (some ((), .inl ((⟨gMax x0.a_Lo (IntKind.u64.wrap (x0.b_Lo + (1 : Int))), x0.a_Hi⟩ : Span), (⟨x0.b_Lo, gMin x0.b_Hi (IntKind.u64.wrap (x0.a_Hi - (1 : Int)))⟩ : Span), ())))
     | .inr e6 => (some ((), .inr ((), ()))))
    (forkB (x1 == (20 : Int))
     (obind (span_must_g1 BIG (decide (x0.a_Hi ≥ x0.b_Lo))) fun y7 => match y7.2 with
      | .inl z7 => (some ((), .inl ((⟨gMax x0.a_Lo x0.b_Lo, x0.a_Hi⟩ : Span), (⟨x0.b_Lo, gMin x0.b_Hi x0.a_Hi⟩ : Span), ())))
      | .inr e7 => (some ((), .inr ((), ()))))
     (forkB (x1 == (21 : Int))
      (obind (span_work_turned BIG x0) fun y8 =>
       obind (span_work_plain_g1_r BIG y8 (19 : Int)) fun y9 => match y9.2 with
       | .inl z9 => (some ((), .inl (z9.2.1, z9.1, ())))
       | .inr e9 => (some ((), .inr ((), ()))))
      (forkB (x1 == (22 : Int))
       (obind (span_work_turned BIG x0) fun y10 =>
        obind (span_work_plain_g1_r BIG y10 (20 : Int)) fun y11 => match y11.2 with
        | .inl z11 => (some ((), .inl (z11.2.1, z11.1, ())))
        | .inr e11 => (some ((), .inr ((), ()))))
       (some ((), .inl ((⟨(0 : Int), (0 : Int)⟩ : Span), (⟨(0 : Int), (0 : Int)⟩ : Span), ())))))))) := by kernel_rfl
theorem span_work_plain_g1_J0_eq (n : Nat) (b0_0 : Int) (b0_1 : Int) (b0_2 : Int) (b0_3 : Int) (b0_4 : Bool) (b0_5 : Int) (b0_6 : Int) (b1_0 : Int) (b1_1 : Int) (b2_0 : Int) (b2_1 : Int) : span_work_plain_g1_J0 (n + 1) b0_0 b0_1 b0_2 b0_3 b0_4 b0_5 b0_6 b1_0 b1_1 b2_0 b2_1 =
  obind (span_without BIG (⟨b0_0, b0_1⟩ : Span) (⟨b0_2, b0_3⟩ : Span)) fun y1 =>
  obind (span_without BIG (⟨b0_2, b0_3⟩ : Span) (⟨b0_0, b0_1⟩ : Span)) fun y2 =>
  some ((), .inl (y1, y2, ())) := by kernel_rfl
noncomputable def span_work_plain_g1_sp : PSpec TT := ⟨[.val (.user 1), .val (.int .u8)], [], [.val (.user 0), .val (.user 0)], .ifc 50 (.agg []), fun x => span_work_plain_g1 BIG x.1 x.2.1⟩
theorem span_work_plain_g1_ok : POk TT Tryz.prog 66 span_work_plain_g1_sp := pOk_of (C := span_work_plain_g1_C) (cuts := span_work_plain_g1_cuts) (by kernel_rfl) span_work_plain_g1_env Tryz.func66 (show Tryz.f66.body = some (bodyOf Tryz.f66) by kernel_rfl) (by kernel_rfl) (by kernel_rfl) (by kernel_rfl) fun x y h => ⟨BIG, h⟩
noncomputable def span_work_signed_g1_C : Ctx TT := ⟨tyOf, [(74, span_work_mixed_sp.toCall), (79, span_work_below_sp.toCall), (66, span_work_plain_g1_sp.toCall (span_work_plain_g1_r_sp.toCall (noCall TT))), (68, span_must_g1_sp.toCall (noCall TT))], 0, [(2, 1), (6, 1)], layOf⟩
theorem span_work_signed_g1_env : EnvOk TT Tryz.prog span_work_signed_g1_C.E := envG (fnCall_ok span_work_mixed_ok) (envG (fnCall_ok span_work_below_ok) (envG (pCall_ok span_work_plain_g1_ok (pCall_ok span_work_plain_g1_r_ok (noCall_ok 66))) (envG (pCall_ok span_must_g1_ok (noCall_ok 68)) (envNil))))
def span_work_signed_g1_cuts : List (Pos × Cut) := [([false, true], ⟨[1, 2, 4, 5, 15], [], false, []⟩)]
noncomputable def span_work_signed_g1 (n : Nat) (x0 : Work) (x1 : Int) : Option ((Unit) × ((Span × Span × Unit) ⊕ (Unit × Unit))) := topP TT Tryz.prog span_work_signed_g1_C span_work_signed_g1_cuts Tryz.f65 (bodyOf Tryz.f65) ⟨[], [], [], [], []⟩ [.val (.user 1), .val (.int .u8)] [] [.val (.user 0), .val (.user 0)] (.ifc 50 (.agg [])) n (x0, x1, ())
noncomputable def span_work_signed_g1_J0 (n : Nat) (s1 : Int) (s15 : Bool) (b0_0 : Int) (b0_1 : Int) (b0_2 : Int) (b0_3 : Int) (b0_4 : Bool) (b0_5 : Int) (b0_6 : Int) (b1_0 : Int) (b1_1 : Int) (b2_0 : Int) (b2_1 : Int) : Option ((Unit) × ((Span × Span × Unit) ⊕ (Unit × Unit))) := cutP TT Tryz.prog span_work_signed_g1_C span_work_signed_g1_cuts Tryz.f65 (bodyOf Tryz.f65) ⟨[], [], [], [], []⟩ [] [.val (.user 0), .val (.user 0)] (.ifc 50 (.agg [])) n [false, true] ⟨[(1, .cell ⟨.int .u8, s1⟩), (2, .ptr 0 0), (4, .ptr 1 0), (5, .ptr 2 0), (15, .cell ⟨.bool, s15⟩)], [.blk 53 [.cell ⟨.int .u64, b0_0⟩, .cell ⟨.int .u64, b0_1⟩, .cell ⟨.int .u64, b0_2⟩, .cell ⟨.int .u64, b0_3⟩, .cell ⟨.bool, b0_4⟩, .cell ⟨.int .u64, b0_5⟩, .cell ⟨.int .u64, b0_6⟩], .blk 27 [.cell ⟨.int .u64, b1_0⟩, .cell ⟨.int .u64, b1_1⟩], .blk 27 [.cell ⟨.int .u64, b2_0⟩, .cell ⟨.int .u64, b2_1⟩]]⟩
theorem span_work_signed_g1_eq (n : Nat) (x0 : Work) (x1 : Int) : span_work_signed_g1 n x0 x1 =
  obind (span_work_mixed BIG x0 (⟨x0.a_Lo, x0.a_Hi⟩ : Span)) fun y1 =>
  forkB y1
  (span_work_signed_g1_J0 n x1 true x0.a_Lo x0.a_Hi x0.b_Lo x0.b_Hi x0.narrow x0.most x0.size (0 : Int) (0 : Int) (0 : Int) (0 : Int))
  (obind (span_work_mixed BIG x0 (⟨x0.b_Lo, x0.b_Hi⟩ : Span)) fun y2 =>
   span_work_signed_g1_J0 n x1 y2 x0.a_Lo x0.a_Hi x0.b_Lo x0.b_Hi x0.narrow x0.most x0.size (0 : Int) (0 : Int) (0 : Int) (0 : Int)) := by kernel_rfl
theorem span_work_signed_g1_J0_eq (n : Nat) (s1 : Int) (s15 : Bool) (b0_0 : Int) (b0_1 : Int) (b0_2 : Int) (b0_3 : Int) (b0_4 : Bool) (b0_5 : Int) (b0_6 : Int) (b1_0 : Int) (b1_1 : Int) (b2_0 : Int) (b2_1 : Int) : span_work_signed_g1_J0 (n + 1) s1 s15 b0_0 b0_1 b0_2 b0_3 b0_4 b0_5 b0_6 b1_0 b1_1 b2_0 b2_1 =
  forkB s15
  (some ((), .inl ((⟨b0_0, b0_1⟩ : Span), (⟨b0_2, b0_3⟩ : Span), ())))
  (obind (span_work_below BIG (⟨b0_0, b0_1, b0_2, b0_3, b0_4, b0_5, b0_6⟩ : Work) b0_0) fun y1 =>
   obind (span_work_below BIG (⟨b0_0, b0_1, b0_2, b0_3, b0_4, b0_5, b0_6⟩ : Work) b0_2) fun y2 =>
   forkB (y1 == y2)
   (obind (span_work_plain_g1 BIG (⟨b0_0, b0_1, b0_2, b0_3, b0_4, b0_5, b0_6⟩ : Work) (IntKind.u8.wrap ((IntKind.u8.wrap (s1 - (23 : Int))) + (19 : Int)))) fun y3 => match y3.2 with
    | .inl z3 => (some ((), .inl (z3.1, z3.2.1, ())))
    | .inr e3 => (some ((), .inr ((), ()))))
   (forkB (s1 == (23 : Int))
    (obind (span_work_below BIG (⟨b0_0, b0_1, b0_2, b0_3, b0_4, b0_5, b0_6⟩ : Work) b0_2) fun y4 =>
     obind (span_must_g1 BIG (true == y4)) fun y5 => match y5.2 with
     | .inl z5 => (some ((), .inl ((⟨b0_0, b0_1⟩ : Span), (⟨b0_2, b0_3⟩ : Span), ())))
     | .inr e5 => (some ((), .inr ((), ()))))
    (obind (span_work_below BIG (⟨b0_0, b0_1, b0_2, b0_3, b0_4, b0_5, b0_6⟩ : Work) b0_2) fun y6 =>
     obind (span_must_g1 BIG ((s1 == (24 : Int)) == y6)) fun y7 => match y7.2 with
     | .inl z7 => (some ((), .inl ((⟨b0_0, b0_1⟩ : Span), (⟨b0_2, b0_3⟩ : Span), ())))
     | .inr e7 => (some ((), .inr ((), ())))))) := by kernel_rfl
noncomputable def span_work_signed_g1_sp : PSpec TT := ⟨[.val (.user 1), .val (.int .u8)], [], [.val (.user 0), .val (.user 0)], .ifc 50 (.agg []), fun x => span_work_signed_g1 BIG x.1 x.2.1⟩
theorem span_work_signed_g1_ok : POk TT Tryz.prog 65 span_work_signed_g1_sp := pOk_of (C := span_work_signed_g1_C) (cuts := span_work_signed_g1_cuts) (by kernel_rfl) span_work_signed_g1_env Tryz.func65 (show Tryz.f65.body = some (bodyOf Tryz.f65) by kernel_rfl) (by kernel_rfl) (by kernel_rfl) (by kernel_rfl) fun x y h => ⟨BIG, h⟩
noncomputable def span_work_ask_g1_C : Ctx TT := ⟨tyOf, [(63, span_work_set_g1_sp.toCall (noCall TT)), (64, span_opposites_g1_sp.toCall (noCall TT)), (65, span_work_signed_g1_sp.toCall (noCall TT)), (66, span_work_plain_g1_sp.toCall (span_work_plain_g1_r_sp.toCall (noCall TT)))], 0, [], layOf⟩
theorem span_work_ask_g1_env : EnvOk TT Tryz.prog span_work_ask_g1_C.E := envG (pCall_ok span_work_set_g1_ok (noCall_ok 63)) (envG (gCall_ok span_opposites_g1_ok (noCall_ok 64)) (envG (pCall_ok span_work_signed_g1_ok (noCall_ok 65)) (envG (pCall_ok span_work_plain_g1_ok (pCall_ok span_work_plain_g1_r_ok (noCall_ok 66))) (envNil))))
def span_work_ask_g1_cuts : List (Pos × Cut) := [([true, true], ⟨[1, 3, 6, 7], [], false, []⟩)]
noncomputable def span_work_ask_g1 (n : Nat) (x0 : Work) (x1 : Int) (x2 : Bool) : Option ((Unit) × ((Span × Span × Unit) ⊕ (Unit × Unit))) := topP TT Tryz.prog span_work_ask_g1_C span_work_ask_g1_cuts Tryz.f39 (bodyOf Tryz.f39) ⟨[], [], [], [], []⟩ [.val (.user 1), .val (.int .u8), .val (.bool)] [] [.val (.user 0), .val (.user 0)] (.ifc 50 (.agg [])) n (x0, x1, x2, ())
noncomputable def span_work_ask_g1_J0 (n : Nat) (s1 : Int) (b0_0 : Int) (b0_1 : Int) (b0_2 : Int) (b0_3 : Int) (b0_4 : Bool) (b0_5 : Int) (b0_6 : Int) (b1_0 : Int) (b1_1 : Int) (b2_0 : Int) (b2_1 : Int) : Option ((Unit) × ((Span × Span × Unit) ⊕ (Unit × Unit))) := cutP TT Tryz.prog span_work_ask_g1_C span_work_ask_g1_cuts Tryz.f39 (bodyOf Tryz.f39) ⟨[], [], [], [], []⟩ [] [.val (.user 0), .val (.user 0)] (.ifc 50 (.agg [])) n [true, true] ⟨[(1, .cell ⟨.int .u8, s1⟩), (3, .ptr 0 0), (6, .ptr 1 0), (7, .ptr 2 0)], [.blk 53 [.cell ⟨.int .u64, b0_0⟩, .cell ⟨.int .u64, b0_1⟩, .cell ⟨.int .u64, b0_2⟩, .cell ⟨.int .u64, b0_3⟩, .cell ⟨.bool, b0_4⟩, .cell ⟨.int .u64, b0_5⟩, .cell ⟨.int .u64, b0_6⟩], .blk 27 [.cell ⟨.int .u64, b1_0⟩, .cell ⟨.int .u64, b1_1⟩], .blk 27 [.cell ⟨.int .u64, b2_0⟩, .cell ⟨.int .u64, b2_1⟩]]⟩
theorem span_work_ask_g1_eq (n : Nat) (x0 : Work) (x1 : Int) (x2 : Bool) : span_work_ask_g1 n x0 x1 x2 =
  forkB (x1 == (27 : Int))
  (obind (span_work_set_g1 BIG x0 x2) fun y1 => match y1.2 with
   | .inl z1 => (some ((), .inl (z1.1, z1.2.1, ())))
   | .inr e1 => (some ((), .inr ((), ()))))
  (forkB (!x2)
   (obind (span_opposites_g1 BIG ) fun y2 =>
    if 0 ≤ x1 ∧ x1 < ((28 : Nat) : Int) then (span_work_ask_g1_J0 n (y2.2.1.getD x1.toNat (0 : Int)) x0.a_Lo x0.a_Hi x0.b_Lo x0.b_Hi x0.narrow x0.most x0.size (0 : Int) (0 : Int) (0 : Int) (0 : Int)) else none)
   (span_work_ask_g1_J0 n x1 x0.a_Lo x0.a_Hi x0.b_Lo x0.b_Hi x0.narrow x0.most x0.size (0 : Int) (0 : Int) (0 : Int) (0 : Int))) := by kernel_rfl
theorem span_work_ask_g1_J0_eq (n : Nat) (s1 : Int) (b0_0 : Int) (b0_1 : Int) (b0_2 : Int) (b0_3 : Int) (b0_4 : Bool) (b0_5 : Int) (b0_6 : Int) (b1_0 : Int) (b1_1 : Int) (b2_0 : Int) (b2_1 : Int) : span_work_ask_g1_J0 (n + 1) s1 b0_0 b0_1 b0_2 b0_3 b0_4 b0_5 b0_6 b1_0 b1_1 b2_0 b2_1 =
  forkB (decide (s1 ≥ (23 : Int)))
  (obind (span_work_signed_g1 BIG (⟨b0_0, b0_1, b0_2, b0_3, b0_4, b0_5, b0_6⟩ : Work) s1) fun y1 => match y1.2 with
   | .inl z1 => (some ((), .inl (z1.1, z1.2.1, ())))
   | .inr e1 => (some ((), .inr ((), ()))))
  (obind (span_work_plain_g1 BIG (⟨b0_0, b0_1, b0_2, b0_3, b0_4, b0_5, b0_6⟩ : Work) s1) fun y2 => match y2.2 with
   | .inl z2 => (some ((), .inl (z2.1, z2.2.1, ())))
   | .inr e2 => (some ((), .inr ((), ())))) := by kernel_rfl
noncomputable def span_work_ask_g1_sp : PSpec TT := ⟨[.val (.user 1), .val (.int .u8), .val (.bool)], [], [.val (.user 0), .val (.user 0)], .ifc 50 (.agg []), fun x => span_work_ask_g1 BIG x.1 x.2.1 x.2.2.1⟩
theorem span_work_ask_g1_ok : POk TT Tryz.prog 39 span_work_ask_g1_sp := pOk_of (C := span_work_ask_g1_C) (cuts := span_work_ask_g1_cuts) (by kernel_rfl) span_work_ask_g1_env Tryz.func39 (show Tryz.f39.body = some (bodyOf Tryz.f39) by kernel_rfl) (by kernel_rfl) (by kernel_rfl) (by kernel_rfl) fun x y h => ⟨BIG, h⟩
noncomputable def spanIf_1_d1_C : Ctx TT := ⟨tyOf, [], 3, [], layOf⟩
theorem spanIf_1_d1_env : EnvOk TT Tryz.prog spanIf_1_d1_C.E := envNil
noncomputable def spanIf_1_d1 (x0 : Int) (x1 : Int) (x2 : Int) (x3 : Int) (x4 : Bool) : Option ((Int × Int × Unit) × (Int × Int × Unit) × (Bool × Unit) × Unit) := topDf Tryz.prog spanIf_1_d1_C Tryz.f38 (bodyOf Tryz.f38) [.ptr 0 27 [.val (.int .u64), .val (.int .u64)], .ptr 0 27 [.val (.int .u64), .val (.int .u64)], .ptr 0 4 [.val (.bool)]] (.ifc 50 (.agg [])) [.blk 27 [.val (.int .u64), .val (.int .u64)], .blk 27 [.val (.int .u64), .val (.int .u64)], .blk 4 [.val (.bool)]] ((x0, x1, ()), (x2, x3, ()), (x4, ()), (), ())
theorem spanIf_1_d1_eq (x0 : Int) (x1 : Int) (x2 : Int) (x3 : Int) (x4 : Bool) : spanIf_1_d1 x0 x1 x2 x3 x4 =
  some (((0 : Int), (0 : Int), ()), ((0 : Int), (0 : Int), ()), (false, ()), ()) := by kernel_rfl
noncomputable def spanIf_1_d1_dsp : DSpec TT := ⟨[.ptr 0 27 [.val (.int .u64), .val (.int .u64)], .ptr 0 27 [.val (.int .u64), .val (.int .u64)], .ptr 0 4 [.val (.bool)]], .ifc 50 (.agg []), [.blk 27 [.val (.int .u64), .val (.int .u64)], .blk 27 [.val (.int .u64), .val (.int .u64)], .blk 4 [.val (.bool)]], fun x => spanIf_1_d1 x.1.1 x.1.2.1 x.2.1.1 x.2.1.2.1 x.2.2.1.1⟩
theorem spanIf_1_d1_dok : DOk TT Tryz.prog 38 spanIf_1_d1_dsp := dOk_of (C := spanIf_1_d1_C) (by kernel_rfl) spanIf_1_d1_env Tryz.func38 (show Tryz.f38.body = some (bodyOf Tryz.f38) by kernel_rfl) (by kernel_rfl) (by kernel_rfl) (by kernel_rfl) (by kernel_rfl) fun x y h => h
noncomputable def spanIf_1_d2_C : Ctx TT := ⟨tyOf, [], 3, [], layOf⟩
theorem spanIf_1_d2_env : EnvOk TT Tryz.prog spanIf_1_d2_C.E := envNil
noncomputable def spanIf_1_d2 (x0 : Int) (x1 : Int) (x2 : Int) (x3 : Int) (x4 : Bool) : Option ((Int × Int × Unit) × (Int × Int × Unit) × (Bool × Unit) × Unit) := topDf Tryz.prog spanIf_1_d2_C Tryz.f38 (bodyOf Tryz.f38) [.ptr 0 27 [.val (.int .u64), .val (.int .u64)], .ptr 0 27 [.val (.int .u64), .val (.int .u64)], .ptr 0 4 [.val (.bool)]] (.rw 1) [.blk 27 [.val (.int .u64), .val (.int .u64)], .blk 27 [.val (.int .u64), .val (.int .u64)], .blk 4 [.val (.bool)]] ((x0, x1, ()), (x2, x3, ()), (x4, ()), (), ())
theorem spanIf_1_d2_eq (x0 : Int) (x1 : Int) (x2 : Int) (x3 : Int) (x4 : Bool) : spanIf_1_d2 x0 x1 x2 x3 x4 =
  some ((x0, x1, ()), (x2, x3, ()), (x4, ()), ()) := by kernel_rfl
noncomputable def spanIf_1_d2_dsp : DSpec TT := ⟨[.ptr 0 27 [.val (.int .u64), .val (.int .u64)], .ptr 0 27 [.val (.int .u64), .val (.int .u64)], .ptr 0 4 [.val (.bool)]], .rw 1, [.blk 27 [.val (.int .u64), .val (.int .u64)], .blk 27 [.val (.int .u64), .val (.int .u64)], .blk 4 [.val (.bool)]], fun x => spanIf_1_d2 x.1.1 x.1.2.1 x.2.1.1 x.2.1.2.1 x.2.2.1.1⟩
theorem spanIf_1_d2_dok : DOk TT Tryz.prog 38 spanIf_1_d2_dsp := dOk_of (C := spanIf_1_d2_C) (by kernel_rfl) spanIf_1_d2_env Tryz.func38 (show Tryz.f38.body = some (bodyOf Tryz.f38) by kernel_rfl) (by kernel_rfl) (by kernel_rfl) (by kernel_rfl) (by kernel_rfl) fun x y h => h
noncomputable def spanIf_g1_C : Ctx TT := ⟨tyOf, [(23, spanRight_sp.toCall), (31, span_over_sp.toCall), (39, span_work_ask_g1_sp.toCall (noCall TT))], 0, [(2, 1), (10, 1)], layOf⟩
theorem spanIf_g1_env : EnvOk TT Tryz.prog spanIf_g1_C.E := envG (fnCall_ok spanRight_ok) (envG (fnCall_ok span_over_ok) (envG (pCall_ok span_work_ask_g1_ok (noCall_ok 39)) (envNil)))
def spanIf_g1_cuts : List (Pos × Cut) := [([true, true], ⟨[9, 10, 11, 12, 13], [], false, []⟩)]
noncomputable def spanIf_g1_D : DefP TT := ⟨2, 32, [32, 0, 1, 2, 8, 9, 10, 11, 12], 3, 38, [(0, 0), (1, 0), (2, 0)], spanIf_1_d2_dsp, spanIf_1_d1_dsp⟩
noncomputable def spanIf_g1 (n : Nat) (x0 : Int) (x1 : Bool) (x2 : Bool) (x3 : Span) (x4 : Span) : Option ((Unit) × (Span × Span × Bool × Unit)) := topD Tryz.prog spanIf_g1_C spanIf_g1_cuts Tryz.f13 (bodyOf Tryz.f13) ⟨[], [], [], [], []⟩ [.val (.int .u8), .val (.bool), .val (.bool), .val (.user 0), .val (.user 0)] [] [.val (.user 0), .val (.user 0), .val (.bool)] spanIf_g1_D n (x0, x1, x2, x3, x4, ())
noncomputable def spanIf_g1_J0 (n : Nat) (b0_0 : Int) (b0_1 : Int) (b1_0 : Int) (b1_1 : Int) (b2_0 : Bool) (b3_0 : Int) (b3_1 : Int) (b4_0 : Int) (b4_1 : Int) (b4_2 : Int) (b4_3 : Int) (b4_4 : Bool) (b4_5 : Int) (b4_6 : Int) : Option ((Unit) × (Span × Span × Bool × Unit)) := cutD Tryz.prog spanIf_g1_C spanIf_g1_cuts Tryz.f13 (bodyOf Tryz.f13) ⟨[], [], [], [], []⟩ [] [.val (.user 0), .val (.user 0), .val (.bool)] spanIf_g1_D n [true, true] ⟨[(9, .ptr 3 0), (10, .ptr 0 0), (11, .ptr 1 0), (12, .ptr 2 0), (13, .ptr 4 0)], [.blk 27 [.cell ⟨.int .u64, b0_0⟩, .cell ⟨.int .u64, b0_1⟩], .blk 27 [.cell ⟨.int .u64, b1_0⟩, .cell ⟨.int .u64, b1_1⟩], .blk 4 [.cell ⟨.bool, b2_0⟩], .blk 27 [.cell ⟨.int .u64, b3_0⟩, .cell ⟨.int .u64, b3_1⟩], .blk 53 [.cell ⟨.int .u64, b4_0⟩, .cell ⟨.int .u64, b4_1⟩, .cell ⟨.int .u64, b4_2⟩, .cell ⟨.int .u64, b4_3⟩, .cell ⟨.bool, b4_4⟩, .cell ⟨.int .u64, b4_5⟩, .cell ⟨.int .u64, b4_6⟩]]⟩
theorem spanIf_g1_eq (n : Nat) (x0 : Int) (x1 : Bool) (x2 : Bool) (x3 : Span) (x4 : Span) : spanIf_g1 n x0 x1 x2 x3 x4 =
  forkB (decide (x0 < (17 : Int)))
  (some ((), (x3, x4, true, ())))
  (forkB (decide (x0 > (27 : Int)))
   (some ((), (x3, x4, true, ())))
   (obind (spanRight BIG x3) fun y1 =>
    forkB (!y1)
    (some ((), (x3, x4, true, ())))
    (obind (spanRight BIG x4) fun y2 =>
     forkB (!y2)
     (some ((), (x3, x4, true, ())))
     (obind (span_over BIG x1 x3 x4) fun y3 =>
      obind (span_work_ask_g1 BIG y3 x0 x2) fun y4 => match y4.2 with
      | .inl z4 => (forkB (decide (x3.Hi > y3.most))
       (spanIf_g1_J0 n x3.Lo x3.Hi z4.2.1.Lo z4.2.1.Hi false x4.Lo x4.Hi y3.a_Lo y3.a_Hi y3.b_Lo y3.b_Hi y3.narrow y3.most y3.size)
       (spanIf_g1_J0 n z4.1.Lo z4.1.Hi z4.2.1.Lo z4.2.1.Hi false x4.Lo x4.Hi y3.a_Lo y3.a_Hi y3.b_Lo y3.b_Hi y3.narrow y3.most y3.size))
      | .inr e4 => (obind (spanIf_1_d1 (0 : Int) (0 : Int) (0 : Int) (0 : Int) false) fun y5 =>
       some ((), ((⟨y5.1.1, y5.1.2.1⟩ : Span), (⟨y5.2.1.1, y5.2.1.2.1⟩ : Span), y5.2.2.1.1, ()))))))) := by kernel_rfl
theorem spanIf_g1_J0_eq (n : Nat) (b0_0 : Int) (b0_1 : Int) (b1_0 : Int) (b1_1 : Int) (b2_0 : Bool) (b3_0 : Int) (b3_1 : Int) (b4_0 : Int) (b4_1 : Int) (b4_2 : Int) (b4_3 : Int) (b4_4 : Bool) (b4_5 : Int) (b4_6 : Int) : spanIf_g1_J0 (n + 1) b0_0 b0_1 b1_0 b1_1 b2_0 b3_0 b3_1 b4_0 b4_1 b4_2 b4_3 b4_4 b4_5 b4_6 =
  forkB (decide (b3_1 > b4_5))
  (obind (spanIf_1_d2 b0_0 b0_1 b3_0 b3_1 true) fun y1 =>
   some ((), ((⟨y1.1.1, y1.1.2.1⟩ : Span), (⟨y1.2.1.1, y1.2.1.2.1⟩ : Span), y1.2.2.1.1, ())))
  (obind (spanIf_1_d2 b0_0 b0_1 b1_0 b1_1 true) fun y2 =>
   some ((), ((⟨y2.1.1, y2.1.2.1⟩ : Span), (⟨y2.2.1.1, y2.2.1.2.1⟩ : Span), y2.2.2.1.1, ()))) := by kernel_rfl
noncomputable def spanIf_g1_sp : GSpec TT := ⟨[.val (.int .u8), .val (.bool), .val (.bool), .val (.user 0), .val (.user 0)], [], [.val (.user 0), .val (.user 0), .val (.bool)], fun x => spanIf_g1 BIG x.1 x.2.1 x.2.2.1 x.2.2.2.1 x.2.2.2.2.1⟩
theorem spanIf_g1_ok : GOk TT Tryz.prog 13 spanIf_g1_sp := gOkD_of (C := spanIf_g1_C) (cuts := spanIf_g1_cuts) (D := spanIf_g1_D) (by kernel_rfl) spanIf_g1_env Tryz.func13 (show Tryz.f13.body = some (bodyOf Tryz.f13) by kernel_rfl) (by kernel_rfl) (by kernel_rfl) (by kernel_rfl) spanIf_1_d2_dok spanIf_1_d1_dok fun x y h => ⟨BIG, h⟩
noncomputable def law11_asks_C : Ctx TT := ⟨tyOf, [(13, spanIf_g1_sp.toCall (noCall TT)), (14, ref11If_sp.toCall)], 0, [], layOf⟩
theorem law11_asks_env : EnvOk TT Tryz.prog law11_asks_C.E := envG (gCall_ok spanIf_g1_ok (noCall_ok 13)) (envG (fnCall_ok ref11If_ok) (envNil))
def law11_asks_cuts : List (Pos × Cut) := []
noncomputable def law11_asks (n : Nat) (x0 : Int) (x1 : Bool) (x2 : Bool) (x3 : Span) (x4 : Span) : Option (Bool) := topF TT Tryz.prog law11_asks_C law11_asks_cuts Tryz.f7 (bodyOf Tryz.f7) ⟨[], []⟩ [.val (.int .u8), .val (.bool), .val (.bool), .val (.user 0), .val (.user 0)] [.val (.bool)] n (x0, x1, x2, x3, x4)
theorem law11_asks_eq (n : Nat) (x0 : Int) (x1 : Bool) (x2 : Bool) (x3 : Span) (x4 : Span) : law11_asks n x0 x1 x2 x3 x4 =
  obind (spanIf_g1 BIG x0 x1 x2 x3 x4) fun y1 =>
  obind (ref11If BIG x0 x1 x2 x3 x4) fun y2 =>
  forkB ((y1.2.1.Lo == y2.1.Lo) && (y1.2.1.Hi == y2.1.Hi))
  (forkB ((y1.2.2.1.Lo == y2.2.1.Lo) && (y1.2.2.1.Hi == y2.2.1.Hi))
   (some (y1.2.2.2.1 == y2.2.2))
   (some false))
  (some false) := by kernel_rfl
noncomputable def law11_asks_sp : FnSpec TT := ⟨[.val (.int .u8), .val (.bool), .val (.bool), .val (.user 0), .val (.user 0)], [.val (.bool)], fun x => law11_asks BIG x.1 x.2.1 x.2.2.1 x.2.2.2.1 x.2.2.2.2⟩
theorem law11_asks_ok : FnOk TT Tryz.prog 7 law11_asks_sp := fnOk_of (C := law11_asks_C) (by kernel_rfl) law11_asks_env Tryz.func7 (show Tryz.f7.body = some (bodyOf Tryz.f7) by kernel_rfl) (by kernel_rfl) (by kernel_rfl) (cuts := law11_asks_cuts) fun x y h => ⟨BIG, h⟩
noncomputable def law11_of_C : Ctx TT := ⟨tyOf, [], 0, [], layOf⟩
theorem law11_of_env : EnvOk TT Tryz.prog law11_of_C.E := envNil
def law11_of_cuts : List (Pos × Cut) := []
noncomputable def law11_of (n : Nat) (x0 : Int) (x1 : Int) : Option (Span) := topF TT Tryz.prog law11_of_C law11_of_cuts Tryz.f5 (bodyOf Tryz.f5) ⟨[], []⟩ [.val (.int .u64), .val (.int .u64)] [.val (.user 0)] n (x0, x1)
theorem law11_of_eq (n : Nat) (x0 : Int) (x1 : Int) : law11_of n x0 x1 =
  some (⟨x0, x1⟩ : Span) := by kernel_rfl
noncomputable def law11_of_sp : FnSpec TT := ⟨[.val (.int .u64), .val (.int .u64)], [.val (.user 0)], fun x => law11_of BIG x.1 x.2⟩
theorem law11_of_ok : FnOk TT Tryz.prog 5 law11_of_sp := fnOk_of (C := law11_of_C) (by kernel_rfl) law11_of_env Tryz.func5 (show Tryz.f5.body = some (bodyOf Tryz.f5) by kernel_rfl) (by kernel_rfl) (by kernel_rfl) (cuts := law11_of_cuts) fun x y h => ⟨BIG, h⟩
noncomputable def law11_awake_C : Ctx TT := ⟨tyOf, [(5, law11_of_sp.toCall), (13, spanIf_g1_sp.toCall (noCall TT)), (11, spanDo_g1_sp.toCall (noCall TT))], 0, [(3, 1)], layOf⟩
theorem law11_awake_env : EnvOk TT Tryz.prog law11_awake_C.E := envG (fnCall_ok law11_of_ok) (envG (gCall_ok spanIf_g1_ok (noCall_ok 13)) (envG (gCall_ok spanDo_g1_ok (noCall_ok 11)) (envNil)))
def law11_awake_cuts : List (Pos × Cut) := []
noncomputable def law11_awake (n : Nat)  : Option (Bool) := topF TT Tryz.prog law11_awake_C law11_awake_cuts Tryz.f10 (bodyOf Tryz.f10) ⟨[], []⟩ [] [.val (.bool)] n ()
set_option maxRecDepth 100000 in
theorem law11_awake_eq (n : Nat)  : law11_awake n  =
  obind (law11_of BIG (0 : Int) (9 : Int)) fun y1 =>
  obind (law11_of BIG (4 : Int) (6 : Int)) fun y2 =>
  obind (spanIf_g1 BIG (19 : Int) false true y1 y2) fun y3 =>
  obind (law11_of BIG (0 : Int) (9 : Int)) fun y4 =>
  obind (law11_of BIG (4 : Int) (6 : Int)) fun y5 =>
  obind (spanIf_g1 BIG (19 : Int) false false y4 y5) fun y6 =>
  obind (law11_of BIG (1 : Int) (2 : Int)) fun y7 =>
  obind (law11_of BIG (10 : Int) (20 : Int)) fun y8 =>
  obind (spanDo_g1 BIG (1 : Int) false y7 y8) fun y9 =>
  obind (law11_of BIG (11 : Int) (22 : Int)) fun y10 =>
  forkB ((y9.2.1.Lo == y10.Lo) && (y9.2.1.Hi == y10.Hi))
  (obind (law11_of BIG (0 : Int) (1 : Int)) fun y11 =>
   obind (law11_of BIG (1 : Int) (1 : Int)) fun y12 =>
   obind (spanDo_g1 BIG (2 : Int) false y11 y12) fun y13 =>
   obind (law11_of BIG (0 : Int) (18446744073709551615 : Int)) fun y14 =>
   forkB ((y13.2.1.Lo == y14.Lo) && (y13.2.1.Hi == y14.Hi))
   (obind (law11_of BIG (0 : Int) (0 : Int)) fun y15 =>
    obind (law11_of BIG (1 : Int) (2 : Int)) fun y16 =>
    obind (spanDo_g1 BIG (2 : Int) false y15 y16) fun y17 =>
    obind (law11_of BIG (18446744073709551614 : Int) (18446744073709551615 : Int)) fun y18 =>
    forkB ((y17.2.1.Lo == y18.Lo) && (y17.2.1.Hi == y18.Hi))
    (obind (law11_of BIG (4294967295 : Int) (4294967295 : Int)) fun y19 =>
     obind (law11_of BIG (1 : Int) (1 : Int)) fun y20 =>
     obind (spanDo_g1 BIG (1 : Int) true y19 y20) fun y21 =>
     obind (law11_of BIG (0 : Int) (0 : Int)) fun y22 =>
     forkB ((y21.2.1.Lo == y22.Lo) && (y21.2.1.Hi == y22.Hi))
     (obind (law11_of BIG (5 : Int) (9 : Int)) fun y23 =>
      forkB ((y3.2.1.Lo == y23.Lo) && (y3.2.1.Hi == y23.Hi))
      (obind (law11_of BIG (4 : Int) (6 : Int)) fun y24 =>
       forkB ((y3.2.2.1.Lo == y24.Lo) && (y3.2.2.1.Hi == y24.Hi))
       (forkB y3.2.2.2.1
        (obind (law11_of BIG (0 : Int) (6 : Int)) fun y25 =>
         forkB ((y6.2.1.Lo == y25.Lo) && (y6.2.1.Hi == y25.Hi))
         (obind (law11_of BIG (4 : Int) (6 : Int)) fun y26 =>
          forkB ((y6.2.2.1.Lo == y26.Lo) && (y6.2.2.1.Hi == y26.Hi))
          (some y6.2.2.2.1)
          (some false))
         (some false))
        (some false))
       (some false))
      (some false))
     (some false))
    (some false))
   (some false))
  (some false) := by kernel_rfl
noncomputable def law11_awake_sp : FnSpec TT := ⟨[], [.val (.bool)], fun _ => law11_awake BIG ⟩
theorem law11_awake_ok : FnOk TT Tryz.prog 10 law11_awake_sp := fnOk_of (C := law11_awake_C) (by kernel_rfl) law11_awake_env Tryz.func10 (show Tryz.f10.body = some (bodyOf Tryz.f10) by kernel_rfl) (by kernel_rfl) (by kernel_rfl) (cuts := law11_awake_cuts) fun x y h => ⟨BIG, h⟩
noncomputable def law11SpanDoes_C : Ctx TT := ⟨tyOf, [(6, law11_does_sp.toCall), (7, law11_asks_sp.toCall), (10, law11_awake_sp.toCall)], 0, [], layOf⟩
theorem law11SpanDoes_env : EnvOk TT Tryz.prog law11SpanDoes_C.E := envG (fnCall_ok law11_does_ok) (envG (fnCall_ok law11_asks_ok) (envG (fnCall_ok law11_awake_ok) (envNil)))
def law11SpanDoes_cuts : List (Pos × Cut) := []
noncomputable def law11SpanDoes (n : Nat) (x0 : Int) (x1 : Bool) (x2 : Bool) (x3 : Span) (x4 : Span) : Option (Bool) := topF TT Tryz.prog law11SpanDoes_C law11SpanDoes_cuts Tryz.f9 (bodyOf Tryz.f9) ⟨[], []⟩ [.val (.int .u8), .val (.bool), .val (.bool), .val (.user 0), .val (.user 0)] [.val (.bool)] n (x0, x1, x2, x3, x4)
theorem law11SpanDoes_eq (n : Nat) (x0 : Int) (x1 : Bool) (x2 : Bool) (x3 : Span) (x4 : Span) : law11SpanDoes n x0 x1 x2 x3 x4 =
  obind (law11_does BIG x0 x1 x3 x4) fun y1 =>
  forkB y1
  (obind (law11_asks BIG x0 x1 x2 x3 x4) fun y2 =>
   forkB y2
   (obind (law11_awake BIG ) fun y3 =>
    some y3)
   (some false))
  (some false) := by kernel_rfl
noncomputable def law11SpanDoes_sp : FnSpec TT := ⟨[.val (.int .u8), .val (.bool), .val (.bool), .val (.user 0), .val (.user 0)], [.val (.bool)], fun x => law11SpanDoes BIG x.1 x.2.1 x.2.2.1 x.2.2.2.1 x.2.2.2.2⟩
theorem law11SpanDoes_ok : FnOk TT Tryz.prog 9 law11SpanDoes_sp := fnOk_of (C := law11SpanDoes_C) (by kernel_rfl) law11SpanDoes_env Tryz.func9 (show Tryz.f9.body = some (bodyOf Tryz.f9) by kernel_rfl) (by kernel_rfl) (by kernel_rfl) (cuts := law11SpanDoes_cuts) fun x y h => ⟨BIG, h⟩
end Go.X
