/- What operators make of spans. -/
import Derived.Test.YtnldbfeakocbnaaGreatIb
namespace Go.X
open Go.RowKit Go.V Go.Proofs
noncomputable def span_rules_g1_C : Ctx TT := ⟨tyOf, [], 0, [], layOf⟩
theorem span_rules_g1_env : EnvOk TT Tryz.prog span_rules_g1_C.E := envNil
def span_rules_g1_cuts : List (Pos × Cut) := []
noncomputable def span_rules_g1 (n : Nat)  : Option ((Unit) × ((((Unit) × (Unit)) × ((Unit) × (Unit)) × ((Unit) × (Unit)) × ((Unit) × (Unit)) × ((Unit) × (Unit)) × ((Unit) × (Unit)) × ((Unit) × (Unit)) × ((Unit) × (Unit)) × ((Unit) × (Unit)) × ((Unit) × (Unit)) × ((Unit) × (Unit)) × ((Unit) × (Unit)) × ((Unit) × (Unit)) × Unit) × Unit)) := topG TT Tryz.prog span_rules_g1_C span_rules_g1_cuts Tryz.f29 (bodyOf Tryz.f29) ⟨[], [], [], [], []⟩ [] [] [.mp .u8 [1, 2, 3, 4, 5, 6, 7, 8, 9, 10, 11, 12, 13] [.fn 44 [] [], .fn 45 [] [], .fn 46 [] [], .fn 47 [] [], .fn 48 [] [], .fn 49 [] [], .fn 50 [] [], .fn 51 [] [], .fn 52 [] [], .fn 53 [] [], .fn 54 [] [], .fn 55 [] [], .fn 56 [] []]] n ()
theorem span_rules_g1_eq (n : Nat)  : span_rules_g1 n  =
  some ((), ((((), ()), ((), ()), ((), ()), ((), ()), ((), ()), ((), ()), ((), ()), ((), ()), ((), ()), ((), ()), ((), ()), ((), ()), ((), ()), ()), ())) := by kernel_rfl
noncomputable def span_rules_g1_sp : GSpec TT := ⟨[], [], [.mp .u8 [1, 2, 3, 4, 5, 6, 7, 8, 9, 10, 11, 12, 13] [.fn 44 [] [], .fn 45 [] [], .fn 46 [] [], .fn 47 [] [], .fn 48 [] [], .fn 49 [] [], .fn 50 [] [], .fn 51 [] [], .fn 52 [] [], .fn 53 [] [], .fn 54 [] [], .fn 55 [] [], .fn 56 [] []]], fun _ => span_rules_g1 BIG ⟩
theorem span_rules_g1_ok : GOk TT Tryz.prog 29 span_rules_g1_sp := gOk_of (C := span_rules_g1_C) (cuts := span_rules_g1_cuts) (by kernel_rfl) span_rules_g1_env Tryz.func29 (show Tryz.f29.body = some (bodyOf Tryz.f29) by kernel_rfl) (by kernel_rfl) (by kernel_rfl) (by kernel_rfl) fun x y h => ⟨BIG, h⟩
noncomputable def spanRight_C : Ctx TT := ⟨tyOf, [], 0, [], layOf⟩
theorem spanRight_env : EnvOk TT Tryz.prog spanRight_C.E := envNil
def spanRight_cuts : List (Pos × Cut) := []
noncomputable def spanRight (n : Nat) (x0 : Span) : Option (Bool) := topF TT Tryz.prog spanRight_C spanRight_cuts Tryz.f23 (bodyOf Tryz.f23) ⟨[], []⟩ [.val (.user 0)] [.val (.bool)] n x0
theorem spanRight_eq (n : Nat) (x0 : Span) : spanRight n x0 =
  some (decide (x0.Lo ≤ x0.Hi)) := by kernel_rfl
noncomputable def spanRight_sp : FnSpec TT := ⟨[.val (.user 0)], [.val (.bool)], fun x => spanRight BIG x⟩
theorem spanRight_ok : FnOk TT Tryz.prog 23 spanRight_sp := fnOk_of (C := spanRight_C) (by kernel_rfl) spanRight_env Tryz.func23 (show Tryz.f23.body = some (bodyOf Tryz.f23) by kernel_rfl) (by kernel_rfl) (by kernel_rfl) (cuts := spanRight_cuts) fun x y h => ⟨BIG, h⟩
noncomputable def spanAll_C : Ctx TT := ⟨tyOf, [], 0, [], layOf⟩
theorem spanAll_env : EnvOk TT Tryz.prog spanAll_C.E := envNil
def spanAll_cuts : List (Pos × Cut) := []
noncomputable def spanAll (n : Nat) (x0 : Bool) : Option (Span) := topF TT Tryz.prog spanAll_C spanAll_cuts Tryz.f27 (bodyOf Tryz.f27) ⟨[], []⟩ [.val (.bool)] [.val (.user 0)] n x0
theorem spanAll_eq (n : Nat) (x0 : Bool) : spanAll n x0 =
  forkB x0
  (some (⟨(0 : Int), (4294967295 : Int)⟩ : Span))
  (some (⟨(0 : Int), (18446744073709551615 : Int)⟩ : Span)) := by kernel_rfl
noncomputable def spanAll_sp : FnSpec TT := ⟨[.val (.bool)], [.val (.user 0)], fun x => spanAll BIG x⟩
theorem spanAll_ok : FnOk TT Tryz.prog 27 spanAll_sp := fnOk_of (C := spanAll_C) (by kernel_rfl) spanAll_env Tryz.func27 (show Tryz.f27.body = some (bodyOf Tryz.f27) by kernel_rfl) (by kernel_rfl) (by kernel_rfl) (cuts := spanAll_cuts) fun x y h => ⟨BIG, h⟩
noncomputable def span_cut_C : Ctx TT := ⟨tyOf, [(27, spanAll_sp.toCall)], 0, [], layOf⟩
theorem span_cut_env : EnvOk TT Tryz.prog span_cut_C.E := envG (fnCall_ok spanAll_ok) (envNil)
def span_cut_cuts : List (Pos × Cut) := []
noncomputable def span_cut (n : Nat) (x0 : Span) (x1 : Bool) : Option (Span) := topF TT Tryz.prog span_cut_C span_cut_cuts Tryz.f57 (bodyOf Tryz.f57) ⟨[], []⟩ [.val (.user 0), .val (.bool)] [.val (.user 0)] n (x0, x1)
theorem span_cut_eq (n : Nat) (x0 : Span) (x1 : Bool) : span_cut n x0 x1 =
  forkB (!x1)
  (some x0)
  (forkB ((sShr .u64 x0.Lo (32 : Int)) != (sShr .u64 x0.Hi (32 : Int)))
   (obind (spanAll BIG true) fun y1 =>
    some y1)
   (some (⟨bAnd .u64 x0.Lo (4294967295 : Int), bAnd .u64 x0.Hi (4294967295 : Int)⟩ : Span))) := by kernel_rfl
noncomputable def span_cut_sp : FnSpec TT := ⟨[.val (.user 0), .val (.bool)], [.val (.user 0)], fun x => span_cut BIG x.1 x.2⟩
theorem span_cut_ok : FnOk TT Tryz.prog 57 span_cut_sp := fnOk_of (C := span_cut_C) (by kernel_rfl) span_cut_env Tryz.func57 (show Tryz.f57.body = some (bodyOf Tryz.f57) by kernel_rfl) (by kernel_rfl) (by kernel_rfl) (cuts := span_cut_cuts) fun x y h => ⟨BIG, h⟩
noncomputable def span_over_C : Ctx TT := ⟨tyOf, [(57, span_cut_sp.toCall)], 0, [(1, 1)], layOf⟩
theorem span_over_env : EnvOk TT Tryz.prog span_over_C.E := envG (fnCall_ok span_cut_ok) (envNil)
def span_over_cuts : List (Pos × Cut) := []
noncomputable def span_over (n : Nat) (x0 : Bool) (x1 : Span) (x2 : Span) : Option (Work) := topF TT Tryz.prog span_over_C span_over_cuts Tryz.f31 (bodyOf Tryz.f31) ⟨[], []⟩ [.val (.bool), .val (.user 0), .val (.user 0)] [.val (.user 1)] n (x0, x1, x2)
theorem span_over_eq (n : Nat) (x0 : Bool) (x1 : Span) (x2 : Span) : span_over n x0 x1 x2 =
  obind (span_cut BIG x1 x0) fun y1 =>
  obind (span_cut BIG x2 x0) fun y2 =>
  forkB x0
  (some (⟨y1.Lo, y1.Hi, y2.Lo, y2.Hi, x0, (4294967295 : Int), (32 : Int)⟩ : Work))
  (some (⟨y1.Lo, y1.Hi, y2.Lo, y2.Hi, x0, (18446744073709551615 : Int), (64 : Int)⟩ : Work)) := by kernel_rfl
noncomputable def span_over_sp : FnSpec TT := ⟨[.val (.bool), .val (.user 0), .val (.user 0)], [.val (.user 1)], fun x => span_over BIG x.1 x.2.1 x.2.2⟩
theorem span_over_ok : FnOk TT Tryz.prog 31 span_over_sp := fnOk_of (C := span_over_C) (by kernel_rfl) span_over_env Tryz.func31 (show Tryz.f31.body = some (bodyOf Tryz.f31) by kernel_rfl) (by kernel_rfl) (by kernel_rfl) (cuts := span_over_cuts) fun x y h => ⟨BIG, h⟩
noncomputable def span_must_g1_C : Ctx TT := ⟨tyOf, [], 0, [], layOf⟩
theorem span_must_g1_env : EnvOk TT Tryz.prog span_must_g1_C.E := envNil
def span_must_g1_cuts : List (Pos × Cut) := []
noncomputable def span_must_g1 (n : Nat) (x0 : Bool) : Option ((Unit) × ((Unit) ⊕ (Unit × Unit))) := topP TT Tryz.prog span_must_g1_C span_must_g1_cuts Tryz.f68 (bodyOf Tryz.f68) ⟨[], [], [], [], []⟩ [.val (.bool)] [] [] (.ifc 50 (.agg [])) n (x0, ())
theorem span_must_g1_eq (n : Nat) (x0 : Bool) : span_must_g1 n x0 =
  forkB (!x0)
  (some ((), .inr ((), ())))
  (some ((), .inl ())) := by kernel_rfl
noncomputable def span_must_g1_sp : PSpec TT := ⟨[.val (.bool)], [], [], .ifc 50 (.agg []), fun x => span_must_g1 BIG x.1⟩
theorem span_must_g1_ok : POk TT Tryz.prog 68 span_must_g1_sp := pOk_of (C := span_must_g1_C) (cuts := span_must_g1_cuts) (by kernel_rfl) span_must_g1_env Tryz.func68 (show Tryz.f68.body = some (bodyOf Tryz.f68) by kernel_rfl) (by kernel_rfl) (by kernel_rfl) (by kernel_rfl) fun x y h => ⟨BIG, h⟩
noncomputable def span_work_ends_C : Ctx TT := ⟨tyOf, [], 0, [], layOf⟩
theorem span_work_ends_env : EnvOk TT Tryz.prog span_work_ends_C.E := envNil
def span_work_ends_cuts : List (Pos × Cut) := []
noncomputable def span_work_ends (n : Nat) (x0 : Work) (x1 : Int) (x2 : Int) : Option (Span) := topF TT Tryz.prog span_work_ends_C span_work_ends_cuts Tryz.f69 (bodyOf Tryz.f69) ⟨[], []⟩ [.val (.user 1), .val (.int .u64), .val (.int .u64)] [.val (.user 0)] n (x0, x1, x2)
theorem span_work_ends_eq (n : Nat) (x0 : Work) (x1 : Int) (x2 : Int) : span_work_ends n x0 x1 x2 =
  some (⟨bAnd .u64 x1 x0.most, bAnd .u64 x2 x0.most⟩ : Span) := by kernel_rfl
noncomputable def span_work_ends_sp : FnSpec TT := ⟨[.val (.user 1), .val (.int .u64), .val (.int .u64)], [.val (.user 0)], fun x => span_work_ends BIG x.1 x.2.1 x.2.2⟩
theorem span_work_ends_ok : FnOk TT Tryz.prog 69 span_work_ends_sp := fnOk_of (C := span_work_ends_C) (by kernel_rfl) span_work_ends_env Tryz.func69 (show Tryz.f69.body = some (bodyOf Tryz.f69) by kernel_rfl) (by kernel_rfl) (by kernel_rfl) (cuts := span_work_ends_cuts) fun x y h => ⟨BIG, h⟩
noncomputable def span_work_add_g1_C : Ctx TT := ⟨tyOf, [(68, span_must_g1_sp.toCall (noCall TT)), (69, span_work_ends_sp.toCall)], 0, [], layOf⟩
theorem span_work_add_g1_env : EnvOk TT Tryz.prog span_work_add_g1_C.E := envG (pCall_ok span_must_g1_ok (noCall_ok 68)) (envG (fnCall_ok span_work_ends_ok) (envNil))
def span_work_add_g1_cuts : List (Pos × Cut) := [([true], ⟨[1, 2], [], false, []⟩)]
noncomputable def span_work_add_g1 (n : Nat) (x0 : Work) : Option ((Unit) × ((Span × Unit) ⊕ (Unit × Unit))) := topP TT Tryz.prog span_work_add_g1_C span_work_add_g1_cuts Tryz.f44 (bodyOf Tryz.f44) ⟨[], [], [], [], []⟩ [.val (.user 1)] [] [.val (.user 0)] (.ifc 50 (.agg [])) n (x0, ())
noncomputable def span_work_add_g1_J0 (n : Nat) (b0_0 : Int) (b0_1 : Int) (b0_2 : Int) (b0_3 : Int) (b0_4 : Bool) (b0_5 : Int) (b0_6 : Int) (b1_0 : Int) (b1_1 : Int) : Option ((Unit) × ((Span × Unit) ⊕ (Unit × Unit))) := cutP TT Tryz.prog span_work_add_g1_C span_work_add_g1_cuts Tryz.f44 (bodyOf Tryz.f44) ⟨[], [], [], [], []⟩ [] [.val (.user 0)] (.ifc 50 (.agg [])) n [true] ⟨[(1, .ptr 0 0), (2, .ptr 1 0)], [.blk 53 [.cell ⟨.int .u64, b0_0⟩, .cell ⟨.int .u64, b0_1⟩, .cell ⟨.int .u64, b0_2⟩, .cell ⟨.int .u64, b0_3⟩, .cell ⟨.bool, b0_4⟩, .cell ⟨.int .u64, b0_5⟩, .cell ⟨.int .u64, b0_6⟩], .blk 27 [.cell ⟨.int .u64, b1_0⟩, .cell ⟨.int .u64, b1_1⟩]]⟩
theorem span_work_add_g1_eq (n : Nat) (x0 : Work) : span_work_add_g1 n x0 =
  forkB (decide (x0.b_Hi ≤ (IntKind.u64.wrap (x0.most - x0.a_Hi))))
  (obind (span_must_g1 BIG true) fun y1 => match y1.2 with
   | .inl z1 => (span_work_add_g1_J0 n x0.a_Lo x0.a_Hi x0.b_Lo x0.b_Hi x0.narrow x0.most x0.size (0 : Int) (0 : Int))
   | .inr e1 => (some ((), .inr ((), ()))))
  (obind (span_must_g1 BIG (decide (x0.b_Lo > (IntKind.u64.wrap (x0.most - x0.a_Lo))))) fun y2 => match y2.2 with
   | .inl z2 => (span_work_add_g1_J0 n x0.a_Lo x0.a_Hi x0.b_Lo x0.b_Hi x0.narrow x0.most x0.size (0 : Int) (0 : Int))
   | .inr e2 => (some ((), .inr ((), ())))) := by kernel_rfl
theorem span_work_add_g1_J0_eq (n : Nat) (b0_0 : Int) (b0_1 : Int) (b0_2 : Int) (b0_3 : Int) (b0_4 : Bool) (b0_5 : Int) (b0_6 : Int) (b1_0 : Int) (b1_1 : Int) : span_work_add_g1_J0 (n + 1) b0_0 b0_1 b0_2 b0_3 b0_4 b0_5 b0_6 b1_0 b1_1 =
  obind (span_work_ends BIG (⟨b0_0, b0_1, b0_2, b0_3, b0_4, b0_5, b0_6⟩ : Work) (IntKind.u64.wrap (b0_0 + b0_2)) (IntKind.u64.wrap (b0_1 + b0_3))) fun y1 =>
  some ((), .inl (y1, ())) := by kernel_rfl
noncomputable def span_work_add_g1_sp : PSpec TT := ⟨[.val (.user 1)], [], [.val (.user 0)], .ifc 50 (.agg []), fun x => span_work_add_g1 BIG x.1⟩
theorem span_work_add_g1_ok : POk TT Tryz.prog 44 span_work_add_g1_sp := pOk_of (C := span_work_add_g1_C) (cuts := span_work_add_g1_cuts) (by kernel_rfl) span_work_add_g1_env Tryz.func44 (show Tryz.f44.body = some (bodyOf Tryz.f44) by kernel_rfl) (by kernel_rfl) (by kernel_rfl) (by kernel_rfl) fun x y h => ⟨BIG, h⟩
noncomputable def spanDo_1_d1_C : Ctx TT := ⟨tyOf, [], 2, [], layOf⟩
theorem spanDo_1_d1_env : EnvOk TT Tryz.prog spanDo_1_d1_C.E := envNil
noncomputable def spanDo_1_d1 (x0 : Bool) (x1 : Int) (x2 : Int) : Option ((Bool × Unit) × (Int × Int × Unit) × Unit) := topDf Tryz.prog spanDo_1_d1_C Tryz.f30 (bodyOf Tryz.f30) [.ptr 0 4 [.val (.bool)], .ptr 0 27 [.val (.int .u64), .val (.int .u64)]] (.rw 1) [.blk 4 [.val (.bool)], .blk 27 [.val (.int .u64), .val (.int .u64)]] ((x0, ()), (x1, x2, ()), (), ())
theorem spanDo_1_d1_eq (x0 : Bool) (x1 : Int) (x2 : Int) : spanDo_1_d1 x0 x1 x2 =
  some ((x0, ()), (x1, x2, ()), ()) := by kernel_rfl
noncomputable def spanDo_1_d1_dsp : DSpec TT := ⟨[.ptr 0 4 [.val (.bool)], .ptr 0 27 [.val (.int .u64), .val (.int .u64)]], .rw 1, [.blk 4 [.val (.bool)], .blk 27 [.val (.int .u64), .val (.int .u64)]], fun x => spanDo_1_d1 x.1.1 x.2.1.1 x.2.1.2.1⟩
theorem spanDo_1_d1_dok : DOk TT Tryz.prog 30 spanDo_1_d1_dsp := dOk_of (C := spanDo_1_d1_C) (by kernel_rfl) spanDo_1_d1_env Tryz.func30 (show Tryz.f30.body = some (bodyOf Tryz.f30) by kernel_rfl) (by kernel_rfl) (by kernel_rfl) (by kernel_rfl) (by kernel_rfl) fun x y h => h
noncomputable def spanDo_1_d2_C : Ctx TT := ⟨tyOf, [(27, spanAll_sp.toCall)], 2, [], layOf⟩
theorem spanDo_1_d2_env : EnvOk TT Tryz.prog spanDo_1_d2_C.E := envG (fnCall_ok spanAll_ok) (envNil)
noncomputable def spanDo_1_d2 (x0 : Bool) (x1 : Int) (x2 : Int) : Option ((Bool × Unit) × (Int × Int × Unit) × Unit) := topDf Tryz.prog spanDo_1_d2_C Tryz.f30 (bodyOf Tryz.f30) [.ptr 0 4 [.val (.bool)], .ptr 0 27 [.val (.int .u64), .val (.int .u64)]] (.ifc 50 (.agg [])) [.blk 4 [.val (.bool)], .blk 27 [.val (.int .u64), .val (.int .u64)]] ((x0, ()), (x1, x2, ()), (), ())
theorem spanDo_1_d2_eq (x0 : Bool) (x1 : Int) (x2 : Int) : spanDo_1_d2 x0 x1 x2 =
  obind (spanAll BIG x0) fun y1 =>
  some ((x0, ()), (y1.Lo, y1.Hi, ()), ()) := by kernel_rfl
noncomputable def spanDo_1_d2_dsp : DSpec TT := ⟨[.ptr 0 4 [.val (.bool)], .ptr 0 27 [.val (.int .u64), .val (.int .u64)]], .ifc 50 (.agg []), [.blk 4 [.val (.bool)], .blk 27 [.val (.int .u64), .val (.int .u64)]], fun x => spanDo_1_d2 x.1.1 x.2.1.1 x.2.1.2.1⟩
theorem spanDo_1_d2_dok : DOk TT Tryz.prog 30 spanDo_1_d2_dsp := dOk_of (C := spanDo_1_d2_C) (by kernel_rfl) spanDo_1_d2_env Tryz.func30 (show Tryz.f30.body = some (bodyOf Tryz.f30) by kernel_rfl) (by kernel_rfl) (by kernel_rfl) (by kernel_rfl) (by kernel_rfl) fun x y h => h
noncomputable def span_work_sub_g1_C : Ctx TT := ⟨tyOf, [(68, span_must_g1_sp.toCall (noCall TT)), (69, span_work_ends_sp.toCall)], 0, [], layOf⟩
theorem span_work_sub_g1_env : EnvOk TT Tryz.prog span_work_sub_g1_C.E := envG (pCall_ok span_must_g1_ok (noCall_ok 68)) (envG (fnCall_ok span_work_ends_ok) (envNil))
def span_work_sub_g1_cuts : List (Pos × Cut) := [([true], ⟨[1, 2], [], false, []⟩)]
noncomputable def span_work_sub_g1 (n : Nat) (x0 : Work) : Option ((Unit) × ((Span × Unit) ⊕ (Unit × Unit))) := topP TT Tryz.prog span_work_sub_g1_C span_work_sub_g1_cuts Tryz.f45 (bodyOf Tryz.f45) ⟨[], [], [], [], []⟩ [.val (.user 1)] [] [.val (.user 0)] (.ifc 50 (.agg [])) n (x0, ())
noncomputable def span_work_sub_g1_J0 (n : Nat) (b0_0 : Int) (b0_1 : Int) (b0_2 : Int) (b0_3 : Int) (b0_4 : Bool) (b0_5 : Int) (b0_6 : Int) (b1_0 : Int) (b1_1 : Int) : Option ((Unit) × ((Span × Unit) ⊕ (Unit × Unit))) := cutP TT Tryz.prog span_work_sub_g1_C span_work_sub_g1_cuts Tryz.f45 (bodyOf Tryz.f45) ⟨[], [], [], [], []⟩ [] [.val (.user 0)] (.ifc 50 (.agg [])) n [true] ⟨[(1, .ptr 0 0), (2, .ptr 1 0)], [.blk 53 [.cell ⟨.int .u64, b0_0⟩, .cell ⟨.int .u64, b0_1⟩, .cell ⟨.int .u64, b0_2⟩, .cell ⟨.int .u64, b0_3⟩, .cell ⟨.bool, b0_4⟩, .cell ⟨.int .u64, b0_5⟩, .cell ⟨.int .u64, b0_6⟩], .blk 27 [.cell ⟨.int .u64, b1_0⟩, .cell ⟨.int .u64, b1_1⟩]]⟩
theorem span_work_sub_g1_eq (n : Nat) (x0 : Work) : span_work_sub_g1 n x0 =
  forkB (decide (x0.a_Lo ≥ x0.b_Hi))
  (obind (span_must_g1 BIG true) fun y1 => match y1.2 with
   | .inl z1 => (span_work_sub_g1_J0 n x0.a_Lo x0.a_Hi x0.b_Lo x0.b_Hi x0.narrow x0.most x0.size (0 : Int) (0 : Int))
   | .inr e1 => (some ((), .inr ((), ()))))
  (obind (span_must_g1 BIG (decide (x0.a_Hi < x0.b_Lo))) fun y2 => match y2.2 with
   | .inl z2 => (span_work_sub_g1_J0 n x0.a_Lo x0.a_Hi x0.b_Lo x0.b_Hi x0.narrow x0.most x0.size (0 : Int) (0 : Int))
   | .inr e2 => (some ((), .inr ((), ())))) := by kernel_rfl
theorem span_work_sub_g1_J0_eq (n : Nat) (b0_0 : Int) (b0_1 : Int) (b0_2 : Int) (b0_3 : Int) (b0_4 : Bool) (b0_5 : Int) (b0_6 : Int) (b1_0 : Int) (b1_1 : Int) : span_work_sub_g1_J0 (n + 1) b0_0 b0_1 b0_2 b0_3 b0_4 b0_5 b0_6 b1_0 b1_1 =
  obind (span_work_ends BIG (⟨b0_0, b0_1, b0_2, b0_3, b0_4, b0_5, b0_6⟩ : Work) (IntKind.u64.wrap (b0_0 - b0_3)) (IntKind.u64.wrap (b0_1 - b0_2))) fun y1 =>
  some ((), .inl (y1, ())) := by kernel_rfl
noncomputable def span_work_sub_g1_sp : PSpec TT := ⟨[.val (.user 1)], [], [.val (.user 0)], .ifc 50 (.agg []), fun x => span_work_sub_g1 BIG x.1⟩
theorem span_work_sub_g1_ok : POk TT Tryz.prog 45 span_work_sub_g1_sp := pOk_of (C := span_work_sub_g1_C) (cuts := span_work_sub_g1_cuts) (by kernel_rfl) span_work_sub_g1_env Tryz.func45 (show Tryz.f45.body = some (bodyOf Tryz.f45) by kernel_rfl) (by kernel_rfl) (by kernel_rfl) (by kernel_rfl) fun x y h => ⟨BIG, h⟩
noncomputable def span_work_mul_g1_C : Ctx TT := ⟨tyOf, [(70, bitsMul64_sp.toCall), (68, span_must_g1_sp.toCall (noCall TT))], 0, [], layOf⟩
theorem span_work_mul_g1_env : EnvOk TT Tryz.prog span_work_mul_g1_C.E := envG (fnCall_ok bitsMul64_ok) (envG (pCall_ok span_must_g1_ok (noCall_ok 68)) (envNil))
def span_work_mul_g1_cuts : List (Pos × Cut) := [([true, true], ⟨[1, 2, 4], [], false, []⟩)]
noncomputable def span_work_mul_g1 (n : Nat) (x0 : Work) : Option ((Unit) × ((Span × Unit) ⊕ (Unit × Unit))) := topP TT Tryz.prog span_work_mul_g1_C span_work_mul_g1_cuts Tryz.f46 (bodyOf Tryz.f46) ⟨[], [], [], [], []⟩ [.val (.user 1)] [] [.val (.user 0)] (.ifc 50 (.agg [])) n (x0, ())
noncomputable def span_work_mul_g1_J0 (n : Nat) (s4 : Int) (b0_0 : Int) (b0_1 : Int) (b0_2 : Int) (b0_3 : Int) (b0_4 : Bool) (b0_5 : Int) (b0_6 : Int) (b1_0 : Int) (b1_1 : Int) : Option ((Unit) × ((Span × Unit) ⊕ (Unit × Unit))) := cutP TT Tryz.prog span_work_mul_g1_C span_work_mul_g1_cuts Tryz.f46 (bodyOf Tryz.f46) ⟨[], [], [], [], []⟩ [] [.val (.user 0)] (.ifc 50 (.agg [])) n [true, true] ⟨[(1, .ptr 0 0), (2, .ptr 1 0), (4, .cell ⟨.int .u64, s4⟩)], [.blk 53 [.cell ⟨.int .u64, b0_0⟩, .cell ⟨.int .u64, b0_1⟩, .cell ⟨.int .u64, b0_2⟩, .cell ⟨.int .u64, b0_3⟩, .cell ⟨.bool, b0_4⟩, .cell ⟨.int .u64, b0_5⟩, .cell ⟨.int .u64, b0_6⟩], .blk 27 [.cell ⟨.int .u64, b1_0⟩, .cell ⟨.int .u64, b1_1⟩]]⟩
theorem span_work_mul_g1_eq (n : Nat) (x0 : Work) : span_work_mul_g1 n x0 =
  obind (bitsMul64 BIG x0.a_Hi x0.b_Hi) fun y1 =>
  forkB (y1.1 == (0 : Int))
  (obind (span_must_g1 BIG (decide (y1.2 ≤ x0.most))) fun y2 => match y2.2 with
   | .inl z2 => (span_work_mul_g1_J0 n y1.2 x0.a_Lo x0.a_Hi x0.b_Lo x0.b_Hi x0.narrow x0.most x0.size (0 : Int) (0 : Int))
   | .inr e2 => (some ((), .inr ((), ()))))
  (obind (span_must_g1 BIG false) fun y3 => match y3.2 with
   | .inl z3 => (span_work_mul_g1_J0 n y1.2 x0.a_Lo x0.a_Hi x0.b_Lo x0.b_Hi x0.narrow x0.most x0.size (0 : Int) (0 : Int))
   | .inr e3 => (some ((), .inr ((), ())))) := by kernel_rfl
theorem span_work_mul_g1_J0_eq (n : Nat) (s4 : Int) (b0_0 : Int) (b0_1 : Int) (b0_2 : Int) (b0_3 : Int) (b0_4 : Bool) (b0_5 : Int) (b0_6 : Int) (b1_0 : Int) (b1_1 : Int) : span_work_mul_g1_J0 (n + 1) s4 b0_0 b0_1 b0_2 b0_3 b0_4 b0_5 b0_6 b1_0 b1_1 =
  some ((), .inl ((⟨IntKind.u64.wrap (b0_0 * b0_2), s4⟩ : Span), ())) := by kernel_rfl
noncomputable def span_work_mul_g1_sp : PSpec TT := ⟨[.val (.user 1)], [], [.val (.user 0)], .ifc 50 (.agg []), fun x => span_work_mul_g1 BIG x.1⟩
theorem span_work_mul_g1_ok : POk TT Tryz.prog 46 span_work_mul_g1_sp := pOk_of (C := span_work_mul_g1_C) (cuts := span_work_mul_g1_cuts) (by kernel_rfl) span_work_mul_g1_env Tryz.func46 (show Tryz.f46.body = some (bodyOf Tryz.f46) by kernel_rfl) (by kernel_rfl) (by kernel_rfl) (by kernel_rfl) fun x y h => ⟨BIG, h⟩
noncomputable def span_work_div_C : Ctx TT := ⟨tyOf, [], 0, [(1, 1)], layOf⟩
theorem span_work_div_env : EnvOk TT Tryz.prog span_work_div_C.E := envNil
def span_work_div_cuts : List (Pos × Cut) := []
noncomputable def span_work_div (n : Nat) (x0 : Work) : Option (Span) := topF TT Tryz.prog span_work_div_C span_work_div_cuts Tryz.f47 (bodyOf Tryz.f47) ⟨[], []⟩ [.val (.user 1)] [.val (.user 0)] n x0
theorem span_work_div_eq (n : Nat) (x0 : Work) : span_work_div n x0 =
  if gMax x0.b_Hi (1 : Int) = 0 then none else (if gMax x0.b_Lo (1 : Int) = 0 then none else (some (⟨IntKind.u64.wrap (x0.a_Lo.tdiv (gMax x0.b_Hi (1 : Int))), IntKind.u64.wrap (x0.a_Hi.tdiv (gMax x0.b_Lo (1 : Int)))⟩ : Span))) := by kernel_rfl
noncomputable def span_work_div_sp : FnSpec TT := ⟨[.val (.user 1)], [.val (.user 0)], fun x => span_work_div BIG x⟩
theorem span_work_div_ok : FnOk TT Tryz.prog 47 span_work_div_sp := fnOk_of (C := span_work_div_C) (by kernel_rfl) span_work_div_env Tryz.func47 (show Tryz.f47.body = some (bodyOf Tryz.f47) by kernel_rfl) (by kernel_rfl) (by kernel_rfl) (cuts := span_work_div_cuts) fun x y h => ⟨BIG, h⟩
noncomputable def span_work_mod_C : Ctx TT := ⟨tyOf, [], 0, [], layOf⟩
theorem span_work_mod_env : EnvOk TT Tryz.prog span_work_mod_C.E := envNil
def span_work_mod_cuts : List (Pos × Cut) := []
noncomputable def span_work_mod (n : Nat) (x0 : Work) : Option (Span) := topF TT Tryz.prog span_work_mod_C span_work_mod_cuts Tryz.f48 (bodyOf Tryz.f48) ⟨[], []⟩ [.val (.user 1)] [.val (.user 0)] n x0
theorem span_work_mod_eq (n : Nat) (x0 : Work) : span_work_mod n x0 =
  forkB (decide (x0.a_Hi < (gMax x0.b_Lo (1 : Int))))
  (some (⟨x0.a_Lo, x0.a_Hi⟩ : Span))
  (some (⟨(0 : Int), gMin x0.a_Hi (IntKind.u64.wrap ((gMax x0.b_Hi (1 : Int)) - (1 : Int)))⟩ : Span)) := by kernel_rfl
noncomputable def span_work_mod_sp : FnSpec TT := ⟨[.val (.user 1)], [.val (.user 0)], fun x => span_work_mod BIG x⟩
theorem span_work_mod_ok : FnOk TT Tryz.prog 48 span_work_mod_sp := fnOk_of (C := span_work_mod_C) (by kernel_rfl) span_work_mod_env Tryz.func48 (show Tryz.f48.body = some (bodyOf Tryz.f48) by kernel_rfl) (by kernel_rfl) (by kernel_rfl) (cuts := span_work_mod_cuts) fun x y h => ⟨BIG, h⟩
noncomputable def spanOf_C : Ctx TT := ⟨tyOf, [], 0, [], layOf⟩
theorem spanOf_env : EnvOk TT Tryz.prog spanOf_C.E := envNil
def spanOf_cuts : List (Pos × Cut) := []
noncomputable def spanOf (n : Nat) (x0 : Int) : Option (Span) := topF TT Tryz.prog spanOf_C spanOf_cuts Tryz.f25 (bodyOf Tryz.f25) ⟨[], []⟩ [.val (.int .u64)] [.val (.user 0)] n x0
theorem spanOf_eq (n : Nat) (x0 : Int) : spanOf n x0 =
  some (⟨x0, x0⟩ : Span) := by kernel_rfl
noncomputable def spanOf_sp : FnSpec TT := ⟨[.val (.int .u64)], [.val (.user 0)], fun x => spanOf BIG x⟩
theorem spanOf_ok : FnOk TT Tryz.prog 25 spanOf_sp := fnOk_of (C := spanOf_C) (by kernel_rfl) spanOf_env Tryz.func25 (show Tryz.f25.body = some (bodyOf Tryz.f25) by kernel_rfl) (by kernel_rfl) (by kernel_rfl) (cuts := spanOf_cuts) fun x y h => ⟨BIG, h⟩
noncomputable def span_one_C : Ctx TT := ⟨tyOf, [(25, spanOf_sp.toCall)], 0, [], layOf⟩
theorem span_one_env : EnvOk TT Tryz.prog span_one_C.E := envG (fnCall_ok spanOf_ok) (envNil)
def span_one_cuts : List (Pos × Cut) := []
noncomputable def span_one (n : Nat) (x0 : Span) : Option (Bool) := topF TT Tryz.prog span_one_C span_one_cuts Tryz.f73 (bodyOf Tryz.f73) ⟨[], []⟩ [.val (.user 0)] [.val (.bool)] n x0
theorem span_one_eq (n : Nat) (x0 : Span) : span_one n x0 =
  obind (spanOf BIG x0.Lo) fun y1 =>
  some ((x0.Lo == y1.Lo) && (x0.Hi == y1.Hi)) := by kernel_rfl
noncomputable def span_one_sp : FnSpec TT := ⟨[.val (.user 0)], [.val (.bool)], fun x => span_one BIG x⟩
theorem span_one_ok : FnOk TT Tryz.prog 73 span_one_sp := fnOk_of (C := span_one_C) (by kernel_rfl) span_one_env Tryz.func73 (show Tryz.f73.body = some (bodyOf Tryz.f73) by kernel_rfl) (by kernel_rfl) (by kernel_rfl) (cuts := span_one_cuts) fun x y h => ⟨BIG, h⟩
noncomputable def span_work_both_C : Ctx TT := ⟨tyOf, [(73, span_one_sp.toCall)], 0, [], layOf⟩
theorem span_work_both_env : EnvOk TT Tryz.prog span_work_both_C.E := envG (fnCall_ok span_one_ok) (envNil)
def span_work_both_cuts : List (Pos × Cut) := []
noncomputable def span_work_both (n : Nat) (x0 : Work) : Option (Bool) := topF TT Tryz.prog span_work_both_C span_work_both_cuts Tryz.f71 (bodyOf Tryz.f71) ⟨[], []⟩ [.val (.user 1)] [.val (.bool)] n x0
theorem span_work_both_eq (n : Nat) (x0 : Work) : span_work_both n x0 =
  obind (span_one BIG (⟨x0.a_Lo, x0.a_Hi⟩ : Span)) fun y1 =>
  forkB y1
  (obind (span_one BIG (⟨x0.b_Lo, x0.b_Hi⟩ : Span)) fun y2 =>
   some y2)
  (some false) := by kernel_rfl
noncomputable def span_work_both_sp : FnSpec TT := ⟨[.val (.user 1)], [.val (.bool)], fun x => span_work_both BIG x⟩
theorem span_work_both_ok : FnOk TT Tryz.prog 71 span_work_both_sp := fnOk_of (C := span_work_both_C) (by kernel_rfl) span_work_both_env Tryz.func71 (show Tryz.f71.body = some (bodyOf Tryz.f71) by kernel_rfl) (by kernel_rfl) (by kernel_rfl) (cuts := span_work_both_cuts) fun x y h => ⟨BIG, h⟩
noncomputable def span_work_and_C : Ctx TT := ⟨tyOf, [(71, span_work_both_sp.toCall), (25, spanOf_sp.toCall)], 0, [], layOf⟩
theorem span_work_and_env : EnvOk TT Tryz.prog span_work_and_C.E := envG (fnCall_ok span_work_both_ok) (envG (fnCall_ok spanOf_ok) (envNil))
def span_work_and_cuts : List (Pos × Cut) := []
noncomputable def span_work_and (n : Nat) (x0 : Work) : Option (Span) := topF TT Tryz.prog span_work_and_C span_work_and_cuts Tryz.f49 (bodyOf Tryz.f49) ⟨[], []⟩ [.val (.user 1)] [.val (.user 0)] n x0
theorem span_work_and_eq (n : Nat) (x0 : Work) : span_work_and n x0 =
  obind (span_work_both BIG x0) fun y1 =>
  forkB y1
  (obind (spanOf BIG (bAnd .u64 x0.a_Lo x0.b_Lo)) fun y2 =>
   some y2)
  (some (⟨(0 : Int), gMin x0.a_Hi x0.b_Hi⟩ : Span)) := by kernel_rfl
noncomputable def span_work_and_sp : FnSpec TT := ⟨[.val (.user 1)], [.val (.user 0)], fun x => span_work_and BIG x⟩
theorem span_work_and_ok : FnOk TT Tryz.prog 49 span_work_and_sp := fnOk_of (C := span_work_and_C) (by kernel_rfl) span_work_and_env Tryz.func49 (show Tryz.f49.body = some (bodyOf Tryz.f49) by kernel_rfl) (by kernel_rfl) (by kernel_rfl) (cuts := span_work_and_cuts) fun x y h => ⟨BIG, h⟩
noncomputable def span_fill_C : Ctx TT := ⟨tyOf, [(82, bitsLen64_sp.toCall)], 0, [], layOf⟩
theorem span_fill_env : EnvOk TT Tryz.prog span_fill_C.E := envG (fnCall_ok bitsLen64_ok) (envNil)
def span_fill_cuts : List (Pos × Cut) := []
noncomputable def span_fill (n : Nat) (x0 : Int) : Option (Int) := topF TT Tryz.prog span_fill_C span_fill_cuts Tryz.f72 (bodyOf Tryz.f72) ⟨[], []⟩ [.val (.int .u64)] [.val (.int .u64)] n x0
theorem span_fill_eq (n : Nat) (x0 : Int) : span_fill n x0 =
  obind (bitsLen64 BIG x0) fun y1 =>
  if y1 < 0 then none else (some (IntKind.u64.wrap ((sShl .u64 (1 : Int) y1) - (1 : Int)))) := by kernel_rfl
noncomputable def span_fill_sp : FnSpec TT := ⟨[.val (.int .u64)], [.val (.int .u64)], fun x => span_fill BIG x⟩
theorem span_fill_ok : FnOk TT Tryz.prog 72 span_fill_sp := fnOk_of (C := span_fill_C) (by kernel_rfl) span_fill_env Tryz.func72 (show Tryz.f72.body = some (bodyOf Tryz.f72) by kernel_rfl) (by kernel_rfl) (by kernel_rfl) (cuts := span_fill_cuts) fun x y h => ⟨BIG, h⟩
noncomputable def span_work_or_C : Ctx TT := ⟨tyOf, [(71, span_work_both_sp.toCall), (25, spanOf_sp.toCall), (72, span_fill_sp.toCall)], 0, [(3, 1)], layOf⟩
theorem span_work_or_env : EnvOk TT Tryz.prog span_work_or_C.E := envG (fnCall_ok span_work_both_ok) (envG (fnCall_ok spanOf_ok) (envG (fnCall_ok span_fill_ok) (envNil)))
def span_work_or_cuts : List (Pos × Cut) := []
noncomputable def span_work_or (n : Nat) (x0 : Work) : Option (Span) := topF TT Tryz.prog span_work_or_C span_work_or_cuts Tryz.f50 (bodyOf Tryz.f50) ⟨[], []⟩ [.val (.user 1)] [.val (.user 0)] n x0
theorem span_work_or_eq (n : Nat) (x0 : Work) : span_work_or n x0 =
  obind (span_work_both BIG x0) fun y1 =>
  forkB y1
  (obind (spanOf BIG (bOr .u64 x0.a_Lo x0.b_Lo)) fun y2 =>
   some y2)
  (obind (span_fill BIG (bOr .u64 x0.a_Hi x0.b_Hi)) fun y3 =>
   some (⟨gMax x0.a_Lo x0.b_Lo, y3⟩ : Span)) := by kernel_rfl
noncomputable def span_work_or_sp : FnSpec TT := ⟨[.val (.user 1)], [.val (.user 0)], fun x => span_work_or BIG x⟩
theorem span_work_or_ok : FnOk TT Tryz.prog 50 span_work_or_sp := fnOk_of (C := span_work_or_C) (by kernel_rfl) span_work_or_env Tryz.func50 (show Tryz.f50.body = some (bodyOf Tryz.f50) by kernel_rfl) (by kernel_rfl) (by kernel_rfl) (cuts := span_work_or_cuts) fun x y h => ⟨BIG, h⟩
noncomputable def span_work_xor_C : Ctx TT := ⟨tyOf, [(71, span_work_both_sp.toCall), (25, spanOf_sp.toCall), (72, span_fill_sp.toCall)], 0, [], layOf⟩
theorem span_work_xor_env : EnvOk TT Tryz.prog span_work_xor_C.E := envG (fnCall_ok span_work_both_ok) (envG (fnCall_ok spanOf_ok) (envG (fnCall_ok span_fill_ok) (envNil)))
def span_work_xor_cuts : List (Pos × Cut) := []
noncomputable def span_work_xor (n : Nat) (x0 : Work) : Option (Span) := topF TT Tryz.prog span_work_xor_C span_work_xor_cuts Tryz.f51 (bodyOf Tryz.f51) ⟨[], []⟩ [.val (.user 1)] [.val (.user 0)] n x0
theorem span_work_xor_eq (n : Nat) (x0 : Work) : span_work_xor n x0 =
  obind (span_work_both BIG x0) fun y1 =>
  forkB y1
  (obind (spanOf BIG (bXor .u64 x0.a_Lo x0.b_Lo)) fun y2 =>
   some y2)
  (obind (span_fill BIG (bOr .u64 x0.a_Hi x0.b_Hi)) fun y3 =>
   some (⟨(0 : Int), y3⟩ : Span)) := by kernel_rfl
noncomputable def span_work_xor_sp : FnSpec TT := ⟨[.val (.user 1)], [.val (.user 0)], fun x => span_work_xor BIG x⟩
theorem span_work_xor_ok : FnOk TT Tryz.prog 51 span_work_xor_sp := fnOk_of (C := span_work_xor_C) (by kernel_rfl) span_work_xor_env Tryz.func51 (show Tryz.f51.body = some (bodyOf Tryz.f51) by kernel_rfl) (by kernel_rfl) (by kernel_rfl) (cuts := span_work_xor_cuts) fun x y h => ⟨BIG, h⟩
noncomputable def span_work_shl_g1_C : Ctx TT := ⟨tyOf, [(73, span_one_sp.toCall), (68, span_must_g1_sp.toCall (noCall TT))], 0, [], layOf⟩
theorem span_work_shl_g1_env : EnvOk TT Tryz.prog span_work_shl_g1_C.E := envG (fnCall_ok span_one_ok) (envG (pCall_ok span_must_g1_ok (noCall_ok 68)) (envNil))
def span_work_shl_g1_cuts : List (Pos × Cut) := [([true, true], ⟨[1, 2, 3], [], false, []⟩)]
noncomputable def span_work_shl_g1 (n : Nat) (x0 : Work) : Option ((Unit) × ((Span × Unit) ⊕ (Unit × Unit))) := topP TT Tryz.prog span_work_shl_g1_C span_work_shl_g1_cuts Tryz.f52 (bodyOf Tryz.f52) ⟨[], [], [], [], []⟩ [.val (.user 1)] [] [.val (.user 0)] (.ifc 50 (.agg [])) n (x0, ())
noncomputable def span_work_shl_g1_J0 (n : Nat) (s3 : Int) (b0_0 : Int) (b0_1 : Int) (b0_2 : Int) (b0_3 : Int) (b0_4 : Bool) (b0_5 : Int) (b0_6 : Int) (b1_0 : Int) (b1_1 : Int) : Option ((Unit) × ((Span × Unit) ⊕ (Unit × Unit))) := cutP TT Tryz.prog span_work_shl_g1_C span_work_shl_g1_cuts Tryz.f52 (bodyOf Tryz.f52) ⟨[], [], [], [], []⟩ [] [.val (.user 0)] (.ifc 50 (.agg [])) n [true, true] ⟨[(1, .ptr 0 0), (2, .ptr 1 0), (3, .cell ⟨.int .u64, s3⟩)], [.blk 53 [.cell ⟨.int .u64, b0_0⟩, .cell ⟨.int .u64, b0_1⟩, .cell ⟨.int .u64, b0_2⟩, .cell ⟨.int .u64, b0_3⟩, .cell ⟨.bool, b0_4⟩, .cell ⟨.int .u64, b0_5⟩, .cell ⟨.int .u64, b0_6⟩], .blk 27 [.cell ⟨.int .u64, b1_0⟩, .cell ⟨.int .u64, b1_1⟩]]⟩
theorem span_work_shl_g1_eq (n : Nat) (x0 : Work) : span_work_shl_g1 n x0 =
  if x0.size = 0 then none else (obind (span_one BIG (⟨x0.b_Lo, x0.b_Hi⟩ : Span)) fun y1 =>
  forkB y1
  (if x0.b_Lo.tmod x0.size < 0 then none else (obind (span_must_g1 BIG (decide (x0.a_Hi ≤ (sShr .u64 x0.most (x0.b_Lo.tmod x0.size))))) fun y2 => match y2.2 with
   | .inl z2 => (span_work_shl_g1_J0 n (x0.b_Lo.tmod x0.size) x0.a_Lo x0.a_Hi x0.b_Lo x0.b_Hi x0.narrow x0.most x0.size (0 : Int) (0 : Int))
   | .inr e2 => (some ((), .inr ((), ())))))
  (obind (span_must_g1 BIG false) fun y3 => match y3.2 with
   | .inl z3 => (span_work_shl_g1_J0 n (x0.b_Lo.tmod x0.size) x0.a_Lo x0.a_Hi x0.b_Lo x0.b_Hi x0.narrow x0.most x0.size (0 : Int) (0 : Int))
   | .inr e3 => (some ((), .inr ((), ()))))) := by kernel_rfl
theorem span_work_shl_g1_J0_eq (n : Nat) (s3 : Int) (b0_0 : Int) (b0_1 : Int) (b0_2 : Int) (b0_3 : Int) (b0_4 : Bool) (b0_5 : Int) (b0_6 : Int) (b1_0 : Int) (b1_1 : Int) : span_work_shl_g1_J0 (n + 1) s3 b0_0 b0_1 b0_2 b0_3 b0_4 b0_5 b0_6 b1_0 b1_1 =
  if s3 < 0 then none else (if s3 < 0 then none else (some ((), .inl ((⟨sShl .u64 b0_0 s3, sShl .u64 b0_1 s3⟩ : Span), ())))) := by kernel_rfl
noncomputable def span_work_shl_g1_sp : PSpec TT := ⟨[.val (.user 1)], [], [.val (.user 0)], .ifc 50 (.agg []), fun x => span_work_shl_g1 BIG x.1⟩
theorem span_work_shl_g1_ok : POk TT Tryz.prog 52 span_work_shl_g1_sp := pOk_of (C := span_work_shl_g1_C) (cuts := span_work_shl_g1_cuts) (by kernel_rfl) span_work_shl_g1_env Tryz.func52 (show Tryz.f52.body = some (bodyOf Tryz.f52) by kernel_rfl) (by kernel_rfl) (by kernel_rfl) (by kernel_rfl) fun x y h => ⟨BIG, h⟩
noncomputable def span_work_shr_C : Ctx TT := ⟨tyOf, [(73, span_one_sp.toCall)], 0, [], layOf⟩
theorem span_work_shr_env : EnvOk TT Tryz.prog span_work_shr_C.E := envG (fnCall_ok span_one_ok) (envNil)
def span_work_shr_cuts : List (Pos × Cut) := [([true, true], ⟨[1, 2, 3, 4], [], false, []⟩)]
noncomputable def span_work_shr (n : Nat) (x0 : Work) : Option (Span) := topF TT Tryz.prog span_work_shr_C span_work_shr_cuts Tryz.f53 (bodyOf Tryz.f53) ⟨[], []⟩ [.val (.user 1)] [.val (.user 0)] n x0
noncomputable def span_work_shr_J0 (n : Nat) (s3 : Int) (s4 : Int) (b0_0 : Int) (b0_1 : Int) (b0_2 : Int) (b0_3 : Int) (b0_4 : Bool) (b0_5 : Int) (b0_6 : Int) (b1_0 : Int) (b1_1 : Int) : Option (Span) := cutF TT Tryz.prog span_work_shr_C span_work_shr_cuts Tryz.f53 (bodyOf Tryz.f53) ⟨[], []⟩ [.val (.user 1)] [.val (.user 0)] n [true, true] ⟨[(1, .ptr 0 0), (2, .ptr 1 0), (3, .cell ⟨.int .u64, s3⟩), (4, .cell ⟨.int .u64, s4⟩)], [.blk 53 [.cell ⟨.int .u64, b0_0⟩, .cell ⟨.int .u64, b0_1⟩, .cell ⟨.int .u64, b0_2⟩, .cell ⟨.int .u64, b0_3⟩, .cell ⟨.bool, b0_4⟩, .cell ⟨.int .u64, b0_5⟩, .cell ⟨.int .u64, b0_6⟩], .blk 27 [.cell ⟨.int .u64, b1_0⟩, .cell ⟨.int .u64, b1_1⟩]]⟩
theorem span_work_shr_eq (n : Nat) (x0 : Work) : span_work_shr n x0 =
  obind (span_one BIG (⟨x0.b_Lo, x0.b_Hi⟩ : Span)) fun y1 =>
  forkB y1
  (if x0.size = 0 then none else (if x0.size = 0 then none else (span_work_shr_J0 n (x0.b_Hi.tmod x0.size) (x0.b_Lo.tmod x0.size) x0.a_Lo x0.a_Hi x0.b_Lo x0.b_Hi x0.narrow x0.most x0.size (0 : Int) (0 : Int))))
  (forkB (decide (x0.b_Hi ≥ x0.size))
   (some (⟨(0 : Int), x0.a_Hi⟩ : Span))
   (span_work_shr_J0 n x0.b_Hi x0.b_Lo x0.a_Lo x0.a_Hi x0.b_Lo x0.b_Hi x0.narrow x0.most x0.size (0 : Int) (0 : Int))) := by kernel_rfl
theorem span_work_shr_J0_eq (n : Nat) (s3 : Int) (s4 : Int) (b0_0 : Int) (b0_1 : Int) (b0_2 : Int) (b0_3 : Int) (b0_4 : Bool) (b0_5 : Int) (b0_6 : Int) (b1_0 : Int) (b1_1 : Int) : span_work_shr_J0 (n + 1) s3 s4 b0_0 b0_1 b0_2 b0_3 b0_4 b0_5 b0_6 b1_0 b1_1 =
  if s3 < 0 then none else (if s4 < 0 then none else (some (⟨sShr .u64 b0_0 s3, sShr .u64 b0_1 s4⟩ : Span))) := by kernel_rfl
noncomputable def span_work_shr_sp : FnSpec TT := ⟨[.val (.user 1)], [.val (.user 0)], fun x => span_work_shr BIG x⟩
theorem span_work_shr_ok : FnOk TT Tryz.prog 53 span_work_shr_sp := fnOk_of (C := span_work_shr_C) (by kernel_rfl) span_work_shr_env Tryz.func53 (show Tryz.f53.body = some (bodyOf Tryz.f53) by kernel_rfl) (by kernel_rfl) (by kernel_rfl) (cuts := span_work_shr_cuts) fun x y h => ⟨BIG, h⟩
noncomputable def span_work_below_C : Ctx TT := ⟨tyOf, [], 0, [], layOf⟩
theorem span_work_below_env : EnvOk TT Tryz.prog span_work_below_C.E := envNil
def span_work_below_cuts : List (Pos × Cut) := []
noncomputable def span_work_below (n : Nat) (x0 : Work) (x1 : Int) : Option (Bool) := topF TT Tryz.prog span_work_below_C span_work_below_cuts Tryz.f79 (bodyOf Tryz.f79) ⟨[], []⟩ [.val (.user 1), .val (.int .u64)] [.val (.bool)] n (x0, x1)
theorem span_work_below_eq (n : Nat) (x0 : Work) (x1 : Int) : span_work_below n x0 x1 =
  if IntKind.u64.wrap (x0.size - (1 : Int)) < 0 then none else (some ((bAnd .u64 (sShr .u64 x1 (IntKind.u64.wrap (x0.size - (1 : Int)))) (1 : Int)) == (1 : Int))) := by kernel_rfl
noncomputable def span_work_below_sp : FnSpec TT := ⟨[.val (.user 1), .val (.int .u64)], [.val (.bool)], fun x => span_work_below BIG x.1 x.2⟩
theorem span_work_below_ok : FnOk TT Tryz.prog 79 span_work_below_sp := fnOk_of (C := span_work_below_C) (by kernel_rfl) span_work_below_env Tryz.func79 (show Tryz.f79.body = some (bodyOf Tryz.f79) by kernel_rfl) (by kernel_rfl) (by kernel_rfl) (cuts := span_work_below_cuts) fun x y h => ⟨BIG, h⟩
noncomputable def span_work_mixed_C : Ctx TT := ⟨tyOf, [(79, span_work_below_sp.toCall)], 0, [], layOf⟩
theorem span_work_mixed_env : EnvOk TT Tryz.prog span_work_mixed_C.E := envG (fnCall_ok span_work_below_ok) (envNil)
def span_work_mixed_cuts : List (Pos × Cut) := []
noncomputable def span_work_mixed (n : Nat) (x0 : Work) (x1 : Span) : Option (Bool) := topF TT Tryz.prog span_work_mixed_C span_work_mixed_cuts Tryz.f74 (bodyOf Tryz.f74) ⟨[], []⟩ [.val (.user 1), .val (.user 0)] [.val (.bool)] n (x0, x1)
theorem span_work_mixed_eq (n : Nat) (x0 : Work) (x1 : Span) : span_work_mixed n x0 x1 =
  obind (span_work_below BIG x0 x1.Lo) fun y1 =>
  obind (span_work_below BIG x0 x1.Hi) fun y2 =>
  some (!(y1 == y2)) := by kernel_rfl
noncomputable def span_work_mixed_sp : FnSpec TT := ⟨[.val (.user 1), .val (.user 0)], [.val (.bool)], fun x => span_work_mixed BIG x.1 x.2⟩
theorem span_work_mixed_ok : FnOk TT Tryz.prog 74 span_work_mixed_sp := fnOk_of (C := span_work_mixed_C) (by kernel_rfl) span_work_mixed_env Tryz.func74 (show Tryz.f74.body = some (bodyOf Tryz.f74) by kernel_rfl) (by kernel_rfl) (by kernel_rfl) (cuts := span_work_mixed_cuts) fun x y h => ⟨BIG, h⟩
noncomputable def span_work_sar_g1_C : Ctx TT := ⟨tyOf, [(73, span_one_sp.toCall), (74, span_work_mixed_sp.toCall), (68, span_must_g1_sp.toCall (noCall TT)), (75, aluDo_sp.toCall)], 0, [], layOf⟩
theorem span_work_sar_g1_env : EnvOk TT Tryz.prog span_work_sar_g1_C.E := envG (fnCall_ok span_one_ok) (envG (fnCall_ok span_work_mixed_ok) (envG (pCall_ok span_must_g1_ok (noCall_ok 68)) (envG (fnCall_ok aluDo_ok) (envNil))))
def span_work_sar_g1_cuts : List (Pos × Cut) := [([true], ⟨[1, 2], [], false, []⟩)]
noncomputable def span_work_sar_g1 (n : Nat) (x0 : Work) : Option ((Unit) × ((Span × Unit) ⊕ (Unit × Unit))) := topP TT Tryz.prog span_work_sar_g1_C span_work_sar_g1_cuts Tryz.f54 (bodyOf Tryz.f54) ⟨[], [], [], [], []⟩ [.val (.user 1)] [] [.val (.user 0)] (.ifc 50 (.agg [])) n (x0, ())
noncomputable def span_work_sar_g1_J0 (n : Nat) (b0_0 : Int) (b0_1 : Int) (b0_2 : Int) (b0_3 : Int) (b0_4 : Bool) (b0_5 : Int) (b0_6 : Int) (b1_0 : Int) (b1_1 : Int) : Option ((Unit) × ((Span × Unit) ⊕ (Unit × Unit))) := cutP TT Tryz.prog span_work_sar_g1_C span_work_sar_g1_cuts Tryz.f54 (bodyOf Tryz.f54) ⟨[], [], [], [], []⟩ [] [.val (.user 0)] (.ifc 50 (.agg [])) n [true] ⟨[(1, .ptr 0 0), (2, .ptr 1 0)], [.blk 53 [.cell ⟨.int .u64, b0_0⟩, .cell ⟨.int .u64, b0_1⟩, .cell ⟨.int .u64, b0_2⟩, .cell ⟨.int .u64, b0_3⟩, .cell ⟨.bool, b0_4⟩, .cell ⟨.int .u64, b0_5⟩, .cell ⟨.int .u64, b0_6⟩], .blk 27 [.cell ⟨.int .u64, b1_0⟩, .cell ⟨.int .u64, b1_1⟩]]⟩
theorem span_work_sar_g1_eq (n : Nat) (x0 : Work) : span_work_sar_g1 n x0 =
  obind (span_one BIG (⟨x0.b_Lo, x0.b_Hi⟩ : Span)) fun y1 =>
  forkB y1
  (obind (span_work_mixed BIG x0 (⟨x0.a_Lo, x0.a_Hi⟩ : Span)) fun y2 =>
   obind (span_must_g1 BIG (!y2)) fun y3 => match y3.2 with
   | .inl z3 => (span_work_sar_g1_J0 n x0.a_Lo x0.a_Hi x0.b_Lo x0.b_Hi x0.narrow x0.most x0.size (0 : Int) (0 : Int))
   | .inr e3 => (some ((), .inr ((), ()))))
  (obind (span_must_g1 BIG false) fun y4 => match y4.2 with
   | .inl z4 => (span_work_sar_g1_J0 n x0.a_Lo x0.a_Hi x0.b_Lo x0.b_Hi x0.narrow x0.most x0.size (0 : Int) (0 : Int))
   | .inr e4 => (some ((), .inr ((), ())))) := by kernel_rfl
theorem span_work_sar_g1_J0_eq (n : Nat) (b0_0 : Int) (b0_1 : Int) (b0_2 : Int) (b0_3 : Int) (b0_4 : Bool) (b0_5 : Int) (b0_6 : Int) (b1_0 : Int) (b1_1 : Int) : span_work_sar_g1_J0 (n + 1) b0_0 b0_1 b0_2 b0_3 b0_4 b0_5 b0_6 b1_0 b1_1 =
  obind (aluDo BIG (11 : Int) b0_4 b0_0 b0_2) fun y1 =>
  obind (aluDo BIG (11 : Int) b0_4 b0_1 b0_2) fun y2 =>
  some ((), .inl ((⟨y1.1, y2.1⟩ : Span), ())) := by kernel_rfl
noncomputable def span_work_sar_g1_sp : PSpec TT := ⟨[.val (.user 1)], [], [.val (.user 0)], .ifc 50 (.agg []), fun x => span_work_sar_g1 BIG x.1⟩
theorem span_work_sar_g1_ok : POk TT Tryz.prog 54 span_work_sar_g1_sp := pOk_of (C := span_work_sar_g1_C) (cuts := span_work_sar_g1_cuts) (by kernel_rfl) span_work_sar_g1_env Tryz.func54 (show Tryz.f54.body = some (bodyOf Tryz.f54) by kernel_rfl) (by kernel_rfl) (by kernel_rfl) (by kernel_rfl) fun x y h => ⟨BIG, h⟩
noncomputable def span_work_mov_C : Ctx TT := ⟨tyOf, [], 0, [], layOf⟩
theorem span_work_mov_env : EnvOk TT Tryz.prog span_work_mov_C.E := envNil
def span_work_mov_cuts : List (Pos × Cut) := []
noncomputable def span_work_mov (n : Nat) (x0 : Work) : Option (Span) := topF TT Tryz.prog span_work_mov_C span_work_mov_cuts Tryz.f55 (bodyOf Tryz.f55) ⟨[], []⟩ [.val (.user 1)] [.val (.user 0)] n x0
theorem span_work_mov_eq (n : Nat) (x0 : Work) : span_work_mov n x0 =
  some (⟨x0.b_Lo, x0.b_Hi⟩ : Span) := by kernel_rfl
noncomputable def span_work_mov_sp : FnSpec TT := ⟨[.val (.user 1)], [.val (.user 0)], fun x => span_work_mov BIG x⟩
theorem span_work_mov_ok : FnOk TT Tryz.prog 55 span_work_mov_sp := fnOk_of (C := span_work_mov_C) (by kernel_rfl) span_work_mov_env Tryz.func55 (show Tryz.f55.body = some (bodyOf Tryz.f55) by kernel_rfl) (by kernel_rfl) (by kernel_rfl) (cuts := span_work_mov_cuts) fun x y h => ⟨BIG, h⟩
noncomputable def span_work_neg_g1_C : Ctx TT := ⟨tyOf, [(68, span_must_g1_sp.toCall (noCall TT)), (69, span_work_ends_sp.toCall)], 0, [], layOf⟩
theorem span_work_neg_g1_env : EnvOk TT Tryz.prog span_work_neg_g1_C.E := envG (pCall_ok span_must_g1_ok (noCall_ok 68)) (envG (fnCall_ok span_work_ends_ok) (envNil))
def span_work_neg_g1_cuts : List (Pos × Cut) := []
noncomputable def span_work_neg_g1 (n : Nat) (x0 : Work) : Option ((Unit) × ((Span × Unit) ⊕ (Unit × Unit))) := topP TT Tryz.prog span_work_neg_g1_C span_work_neg_g1_cuts Tryz.f56 (bodyOf Tryz.f56) ⟨[], [], [], [], []⟩ [.val (.user 1)] [] [.val (.user 0)] (.ifc 50 (.agg [])) n (x0, ())
theorem span_work_neg_g1_eq (n : Nat) (x0 : Work) : span_work_neg_g1 n x0 =
  forkB (x0.a_Hi == (0 : Int))
  (some ((), .inl ((⟨x0.a_Lo, x0.a_Hi⟩ : Span), ())))
  (obind (span_must_g1 BIG (decide (x0.a_Lo > (0 : Int)))) fun y1 => match y1.2 with
   | .inl z1 => (obind (span_work_ends BIG x0 (IntKind.u64.wrap (0 - x0.a_Hi)) (IntKind.u64.wrap (0 - x0.a_Lo))) fun y2 =>
    some ((), .inl (y2, ())))
   | .inr e1 => (some ((), .inr ((), ())))) := by kernel_rfl
noncomputable def span_work_neg_g1_sp : PSpec TT := ⟨[.val (.user 1)], [], [.val (.user 0)], .ifc 50 (.agg []), fun x => span_work_neg_g1 BIG x.1⟩
theorem span_work_neg_g1_ok : POk TT Tryz.prog 56 span_work_neg_g1_sp := pOk_of (C := span_work_neg_g1_C) (cuts := span_work_neg_g1_cuts) (by kernel_rfl) span_work_neg_g1_env Tryz.func56 (show Tryz.f56.body = some (bodyOf Tryz.f56) by kernel_rfl) (by kernel_rfl) (by kernel_rfl) (by kernel_rfl) fun x y h => ⟨BIG, h⟩
noncomputable def spanDo_g1_C : Ctx TT := ⟨tyOf, [(29, span_rules_g1_sp.toCall (noCall TT)), (23, spanRight_sp.toCall), (27, spanAll_sp.toCall), (31, span_over_sp.toCall), (44, span_work_add_g1_sp.toCall (noCall TT)), (45, span_work_sub_g1_sp.toCall (noCall TT)), (46, span_work_mul_g1_sp.toCall (noCall TT)), (47, span_work_div_sp.toCall), (48, span_work_mod_sp.toCall), (49, span_work_and_sp.toCall), (50, span_work_or_sp.toCall), (51, span_work_xor_sp.toCall), (52, span_work_shl_g1_sp.toCall (noCall TT)), (53, span_work_shr_sp.toCall), (54, span_work_sar_g1_sp.toCall (noCall TT)), (55, span_work_mov_sp.toCall), (56, span_work_neg_g1_sp.toCall (noCall TT))], 0, [], layOf⟩
theorem spanDo_g1_env : EnvOk TT Tryz.prog spanDo_g1_C.E := envG (gCall_ok span_rules_g1_ok (noCall_ok 29)) (envG (fnCall_ok spanRight_ok) (envG (fnCall_ok spanAll_ok) (envG (fnCall_ok span_over_ok) (envG (pCall_ok span_work_add_g1_ok (noCall_ok 44)) (envG (pCall_ok span_work_sub_g1_ok (noCall_ok 45)) (envG (pCall_ok span_work_mul_g1_ok (noCall_ok 46)) (envG (fnCall_ok span_work_div_ok) (envG (fnCall_ok span_work_mod_ok) (envG (fnCall_ok span_work_and_ok) (envG (fnCall_ok span_work_or_ok) (envG (fnCall_ok span_work_xor_ok) (envG (pCall_ok span_work_shl_g1_ok (noCall_ok 52)) (envG (fnCall_ok span_work_shr_ok) (envG (pCall_ok span_work_sar_g1_ok (noCall_ok 54)) (envG (fnCall_ok span_work_mov_ok) (envG (pCall_ok span_work_neg_g1_ok (noCall_ok 56)) (envNil)))))))))))))))))
def spanDo_g1_cuts : List (Pos × Cut) := []
noncomputable def spanDo_g1_D : DefP TT := ⟨3, 31, [31, 5, 6, 7, 8, 9], 2, 30, [(0, 0), (1, 0)], spanDo_1_d1_dsp, spanDo_1_d2_dsp⟩
noncomputable def spanDo_g1 (n : Nat) (x0 : Int) (x1 : Bool) (x2 : Span) (x3 : Span) : Option ((Unit) × (Span × Unit)) := topD Tryz.prog spanDo_g1_C spanDo_g1_cuts Tryz.f11 (bodyOf Tryz.f11) ⟨[], [], [], [], []⟩ [.val (.int .u8), .val (.bool), .val (.user 0), .val (.user 0)] [] [.val (.user 0)] spanDo_g1_D n (x0, x1, x2, x3, ())
theorem spanDo_g1_eq (n : Nat) (x0 : Int) (x1 : Bool) (x2 : Span) (x3 : Span) : spanDo_g1 n x0 x1 x2 x3 =
  obind (span_rules_g1 BIG ) fun y1 =>
  if x0 = (1 : Int) then (obind (spanRight BIG x2) fun y2 =>
   forkB (!y2)
   (obind (spanAll BIG x1) fun y3 =>
    some ((), (y3, ())))
   (obind (spanRight BIG x3) fun y4 =>
    forkB (!y4)
    (obind (spanAll BIG x1) fun y5 =>
     some ((), (y5, ())))
    (obind (span_over BIG x1 x2 x3) fun y6 =>
     obind (span_work_add_g1 BIG y6) fun y7 => match y7.2 with
     | .inl z7 => (obind (spanDo_1_d1 x1 z7.1.Lo z7.1.Hi) fun y8 =>
      some ((), ((⟨y8.2.1.1, y8.2.1.2.1⟩ : Span), ())))
     | .inr e7 => (obind (spanDo_1_d2 x1 (0 : Int) (0 : Int)) fun y9 =>
      some ((), ((⟨y9.2.1.1, y9.2.1.2.1⟩ : Span), ())))))) else (if x0 = (2 : Int) then (obind (spanRight BIG x2) fun y10 =>
    forkB (!y10)
    (obind (spanAll BIG x1) fun y11 =>
     some ((), (y11, ())))
    (obind (spanRight BIG x3) fun y12 =>
     forkB (!y12)
     (obind (spanAll BIG x1) fun y13 =>
      some ((), (y13, ())))
     (obind (span_over BIG x1 x2 x3) fun y14 =>
      obind (span_work_sub_g1 BIG y14) fun y15 => match y15.2 with
      | .inl z15 => (obind (spanDo_1_d1 x1 z15.1.Lo z15.1.Hi) fun y16 =>
       some ((), ((⟨y16.2.1.1, y16.2.1.2.1⟩ : Span), ())))
      | .inr e15 => (obind (spanDo_1_d2 x1 (0 : Int) (0 : Int)) fun y17 =>
       some ((), ((⟨y17.2.1.1, y17.2.1.2.1⟩ : Span), ())))))) else (if x0 = (3 : Int) then (obind (spanRight BIG x2) fun y18 =>
     forkB (!y18)
     (obind (spanAll BIG x1) fun y19 =>
      some ((), (y19, ())))
     (obind (spanRight BIG x3) fun y20 =>
      forkB (!y20)
      (obind (spanAll BIG x1) fun y21 =>
       some ((), (y21, ())))
      (obind (span_over BIG x1 x2 x3) fun y22 =>
       obind (span_work_mul_g1 BIG y22) fun y23 => match y23.2 with
       | .inl z23 => (obind (spanDo_1_d1 x1 z23.1.Lo z23.1.Hi) fun y24 =>
        some ((), ((⟨y24.2.1.1, y24.2.1.2.1⟩ : Span), ())))
       | .inr e23 => (obind (spanDo_1_d2 x1 (0 : Int) (0 : Int)) fun y25 =>
        some ((), ((⟨y25.2.1.1, y25.2.1.2.1⟩ : Span), ())))))) else (if x0 = (4 : Int) then (obind (spanRight BIG x2) fun y26 =>
      forkB (!y26)
      (obind (spanAll BIG x1) fun y27 =>
       some ((), (y27, ())))
      (obind (spanRight BIG x3) fun y28 =>
       forkB (!y28)
       (obind (spanAll BIG x1) fun y29 =>
        some ((), (y29, ())))
       (obind (span_over BIG x1 x2 x3) fun y30 =>
        obind (span_work_div BIG y30) fun y31 =>
        obind (spanDo_1_d1 x1 y31.Lo y31.Hi) fun y32 =>
        some ((), ((⟨y32.2.1.1, y32.2.1.2.1⟩ : Span), ()))))) else (if x0 = (5 : Int) then (obind (spanRight BIG x2) fun y33 =>
       forkB (!y33)
       (obind (spanAll BIG x1) fun y34 =>
        some ((), (y34, ())))
       (obind (spanRight BIG x3) fun y35 =>
        forkB (!y35)
        (obind (spanAll BIG x1) fun y36 =>
         some ((), (y36, ())))
        (obind (span_over BIG x1 x2 x3) fun y37 =>
         obind (span_work_mod BIG y37) fun y38 =>
         obind (spanDo_1_d1 x1 y38.Lo y38.Hi) fun y39 =>
         some ((), ((⟨y39.2.1.1, y39.2.1.2.1⟩ : Span), ()))))) else (if x0 = (6 : Int) then (obind (spanRight BIG x2) fun y40 =>
        forkB (!y40)
        (obind (spanAll BIG x1) fun y41 =>
         some ((), (y41, ())))
        (obind (spanRight BIG x3) fun y42 =>
         forkB (!y42)
         (obind (spanAll BIG x1) fun y43 =>
          some ((), (y43, ())))
         (obind (span_over BIG x1 x2 x3) fun y44 =>
          obind (span_work_and BIG y44) fun y45 =>
          obind (spanDo_1_d1 x1 y45.Lo y45.Hi) fun y46 =>
          some ((), ((⟨y46.2.1.1, y46.2.1.2.1⟩ : Span), ()))))) else (if x0 = (7 : Int) then (obind (spanRight BIG x2) fun y47 =>
         forkB (!y47)
         (obind (spanAll BIG x1) fun y48 =>
          some ((), (y48, ())))
         (obind (spanRight BIG x3) fun y49 =>
          forkB (!y49)
          (obind (spanAll BIG x1) fun y50 =>
           some ((), (y50, ())))
          (obind (span_over BIG x1 x2 x3) fun y51 =>
           obind (span_work_or BIG y51) fun y52 =>
           obind (spanDo_1_d1 x1 y52.Lo y52.Hi) fun y53 =>
           some ((), ((⟨y53.2.1.1, y53.2.1.2.1⟩ : Span), ()))))) else (if x0 = (8 : Int) then (obind (spanRight BIG x2) fun y54 =>
          forkB (!y54)
          (obind (spanAll BIG x1) fun y55 =>
           some ((), (y55, ())))
          (obind (spanRight BIG x3) fun y56 =>
           forkB (!y56)
           (obind (spanAll BIG x1) fun y57 =>
            some ((), (y57, ())))
           (obind (span_over BIG x1 x2 x3) fun y58 =>
            obind (span_work_xor BIG y58) fun y59 =>
            obind (spanDo_1_d1 x1 y59.Lo y59.Hi) fun y60 =>
            some ((), ((⟨y60.2.1.1, y60.2.1.2.1⟩ : Span), ()))))) else (if x0 = (9 : Int) then (obind (spanRight BIG x2) fun y61 =>
           forkB (!y61)
           (obind (spanAll BIG x1) fun y62 =>
            some ((), (y62, ())))
           (obind (spanRight BIG x3) fun y63 =>
            forkB (!y63)
            (obind (spanAll BIG x1) fun y64 =>
             some ((), (y64, ())))
            (obind (span_over BIG x1 x2 x3) fun y65 =>
             obind (span_work_shl_g1 BIG y65) fun y66 => match y66.2 with
             | .inl z66 => (obind (spanDo_1_d1 x1 z66.1.Lo z66.1.Hi) fun y67 =>
              some ((), ((⟨y67.2.1.1, y67.2.1.2.1⟩ : Span), ())))
             | .inr e66 => (obind (spanDo_1_d2 x1 (0 : Int) (0 : Int)) fun y68 =>
              some ((), ((⟨y68.2.1.1, y68.2.1.2.1⟩ : Span), ())))))) else (if x0 = (10 : Int) then (obind (spanRight BIG x2) fun y69 =>
            forkB (!y69)
            (obind (spanAll BIG x1) fun y70 =>
             some ((), (y70, ())))
            (obind (spanRight BIG x3) fun y71 =>
             forkB (!y71)
             (obind (spanAll BIG x1) fun y72 =>
              some ((), (y72, ())))
             (obind (span_over BIG x1 x2 x3) fun y73 =>
              obind (span_work_shr BIG y73) fun y74 =>
              obind (spanDo_1_d1 x1 y74.Lo y74.Hi) fun y75 =>
              some ((), ((⟨y75.2.1.1, y75.2.1.2.1⟩ : Span), ()))))) else (if x0 = (11 : Int) then (obind (spanRight BIG x2) fun y76 =>
             forkB (!y76)
             (obind (spanAll BIG x1) fun y77 =>
              some ((), (y77, ())))
             (obind (spanRight BIG x3) fun y78 =>
              forkB (!y78)
              (obind (spanAll BIG x1) fun y79 =>
               some ((), (y79, ())))
              (obind (span_over BIG x1 x2 x3) fun y80 =>
               obind (span_work_sar_g1 BIG y80) fun y81 => match y81.2 with
               | .inl z81 => (obind (spanDo_1_d1 x1 z81.1.Lo z81.1.Hi) fun y82 =>
                some ((), ((⟨y82.2.1.1, y82.2.1.2.1⟩ : Span), ())))
               | .inr e81 => (obind (spanDo_1_d2 x1 (0 : Int) (0 : Int)) fun y83 =>
                some ((), ((⟨y83.2.1.1, y83.2.1.2.1⟩ : Span), ())))))) else (if x0 = (12 : Int) then (obind (spanRight BIG x2) fun y84 =>
              forkB (!y84)
              (obind (spanAll BIG x1) fun y85 =>
               some ((), (y85, ())))
              (obind (spanRight BIG x3) fun y86 =>
               forkB (!y86)
               (obind (spanAll BIG x1) fun y87 =>
                some ((), (y87, ())))
               (obind (span_over BIG x1 x2 x3) fun y88 =>
                obind (span_work_mov BIG y88) fun y89 =>
                obind (spanDo_1_d1 x1 y89.Lo y89.Hi) fun y90 =>
                some ((), ((⟨y90.2.1.1, y90.2.1.2.1⟩ : Span), ()))))) else (if x0 = (13 : Int) then (obind (spanRight BIG x2) fun y91 =>
               forkB (!y91)
               (obind (spanAll BIG x1) fun y92 =>
                some ((), (y92, ())))
               (obind (spanRight BIG x3) fun y93 =>
                forkB (!y93)
                (obind (spanAll BIG x1) fun y94 =>
                 some ((), (y94, ())))
                (obind (span_over BIG x1 x2 x3) fun y95 =>
                 obind (span_work_neg_g1 BIG y95) fun y96 => match y96.2 with
                 | .inl z96 => (obind (spanDo_1_d1 x1 z96.1.Lo z96.1.Hi) fun y97 =>
                  some ((), ((⟨y97.2.1.1, y97.2.1.2.1⟩ : Span), ())))
                 | .inr e96 => (obind (spanDo_1_d2 x1 (0 : Int) (0 : Int)) fun y98 =>
                  some ((), ((⟨y98.2.1.1, y98.2.1.2.1⟩ : Span), ())))))) else (obind (spanAll BIG x1) fun y99 =>
               some ((), (y99, ()))))))))))))))) := by kernel_rfl
noncomputable def spanDo_g1_sp : GSpec TT := ⟨[.val (.int .u8), .val (.bool), .val (.user 0), .val (.user 0)], [], [.val (.user 0)], fun x => spanDo_g1 BIG x.1 x.2.1 x.2.2.1 x.2.2.2.1⟩
theorem spanDo_g1_ok : GOk TT Tryz.prog 11 spanDo_g1_sp := gOkD_of (C := spanDo_g1_C) (cuts := spanDo_g1_cuts) (D := spanDo_g1_D) (by kernel_rfl) spanDo_g1_env Tryz.func11 (show Tryz.f11.body = some (bodyOf Tryz.f11) by kernel_rfl) (by kernel_rfl) (by kernel_rfl) (by kernel_rfl) spanDo_1_d1_dok spanDo_1_d2_dok fun x y h => ⟨BIG, h⟩
noncomputable def law11_does_C : Ctx TT := ⟨tyOf, [(11, spanDo_g1_sp.toCall (noCall TT)), (12, ref11Do_sp.toCall)], 0, [(1, 1)], layOf⟩
theorem law11_does_env : EnvOk TT Tryz.prog law11_does_C.E := envG (gCall_ok spanDo_g1_ok (noCall_ok 11)) (envG (fnCall_ok ref11Do_ok) (envNil))
def law11_does_cuts : List (Pos × Cut) := []
noncomputable def law11_does (n : Nat) (x0 : Int) (x1 : Bool) (x2 : Span) (x3 : Span) : Option (Bool) := topF TT Tryz.prog law11_does_C law11_does_cuts Tryz.f6 (bodyOf Tryz.f6) ⟨[], []⟩ [.val (.int .u8), .val (.bool), .val (.user 0), .val (.user 0)] [.val (.bool)] n (x0, x1, x2, x3)
theorem law11_does_eq (n : Nat) (x0 : Int) (x1 : Bool) (x2 : Span) (x3 : Span) : law11_does n x0 x1 x2 x3 =
  obind (spanDo_g1 BIG x0 x1 x2 x3) fun y1 =>
  obind (ref11Do BIG x0 x1 x2 x3) fun y2 =>
  some ((y1.2.1.Lo == y2.Lo) && (y1.2.1.Hi == y2.Hi)) := by kernel_rfl
noncomputable def law11_does_sp : FnSpec TT := ⟨[.val (.int .u8), .val (.bool), .val (.user 0), .val (.user 0)], [.val (.bool)], fun x => law11_does BIG x.1 x.2.1 x.2.2.1 x.2.2.2⟩
theorem law11_does_ok : FnOk TT Tryz.prog 6 law11_does_sp := fnOk_of (C := law11_does_C) (by kernel_rfl) law11_does_env Tryz.func6 (show Tryz.f6.body = some (bodyOf Tryz.f6) by kernel_rfl) (by kernel_rfl) (by kernel_rfl) (cuts := law11_does_cuts) fun x y h => ⟨BIG, h⟩
end Go.X
