/- The law SpanNumbers. -/
import Derived.Test.YtnldbfeakocbnaaGreatId
namespace Go.X
open Go.RowKit Go.V Go.Proofs
noncomputable def spanJoin_C : Ctx TT := ⟨tyOf, [], 0, [], layOf⟩
theorem spanJoin_env : EnvOk TT Tryz.prog spanJoin_C.E := envNil
def spanJoin_cuts : List (Pos × Cut) := []
noncomputable def spanJoin (n : Nat) (x0 : Span) (x1 : Span) : Option (Span) := topF TT Tryz.prog spanJoin_C spanJoin_cuts Tryz.f17 (bodyOf Tryz.f17) ⟨[], []⟩ [.val (.user 0), .val (.user 0)] [.val (.user 0)] n (x0, x1)
theorem spanJoin_eq (n : Nat) (x0 : Span) (x1 : Span) : spanJoin n x0 x1 =
  some (⟨gMin x0.Lo x1.Lo, gMax x0.Hi x1.Hi⟩ : Span) := by kernel_rfl
noncomputable def spanJoin_sp : FnSpec TT := ⟨[.val (.user 0), .val (.user 0)], [.val (.user 0)], fun x => spanJoin BIG x.1 x.2⟩
theorem spanJoin_ok : FnOk TT Tryz.prog 17 spanJoin_sp := fnOk_of (C := spanJoin_C) (by kernel_rfl) spanJoin_env Tryz.func17 (show Tryz.f17.body = some (bodyOf Tryz.f17) by kernel_rfl) (by kernel_rfl) (by kernel_rfl) (cuts := spanJoin_cuts) fun x y h => ⟨BIG, h⟩
noncomputable def ref11Join_C : Ctx TT := ⟨tyOf, [], 0, [], layOf⟩
theorem ref11Join_env : EnvOk TT Tryz.prog ref11Join_C.E := envNil
def ref11Join_cuts : List (Pos × Cut) := []
noncomputable def ref11Join (n : Nat) (x0 : Span) (x1 : Span) : Option (Span) := topF TT Tryz.prog ref11Join_C ref11Join_cuts Tryz.f18 (bodyOf Tryz.f18) ⟨[], []⟩ [.val (.user 0), .val (.user 0)] [.val (.user 0)] n (x0, x1)
theorem ref11Join_eq (n : Nat) (x0 : Span) (x1 : Span) : ref11Join n x0 x1 =
  some (⟨gMin x0.Lo x1.Lo, gMax x0.Hi x1.Hi⟩ : Span) := by kernel_rfl
noncomputable def ref11Join_sp : FnSpec TT := ⟨[.val (.user 0), .val (.user 0)], [.val (.user 0)], fun x => ref11Join BIG x.1 x.2⟩
theorem ref11Join_ok : FnOk TT Tryz.prog 18 ref11Join_sp := fnOk_of (C := ref11Join_C) (by kernel_rfl) ref11Join_env Tryz.func18 (show Tryz.f18.body = some (bodyOf Tryz.f18) by kernel_rfl) (by kernel_rfl) (by kernel_rfl) (cuts := ref11Join_cuts) fun x y h => ⟨BIG, h⟩
noncomputable def spanWithin_C : Ctx TT := ⟨tyOf, [], 0, [], layOf⟩
theorem spanWithin_env : EnvOk TT Tryz.prog spanWithin_C.E := envNil
def spanWithin_cuts : List (Pos × Cut) := []
noncomputable def spanWithin (n : Nat) (x0 : Span) (x1 : Span) : Option (Bool) := topF TT Tryz.prog spanWithin_C spanWithin_cuts Tryz.f19 (bodyOf Tryz.f19) ⟨[], []⟩ [.val (.user 0), .val (.user 0)] [.val (.bool)] n (x0, x1)
theorem spanWithin_eq (n : Nat) (x0 : Span) (x1 : Span) : spanWithin n x0 x1 =
  forkB (decide (x1.Lo ≤ x0.Lo))
  (some (decide (x0.Hi ≤ x1.Hi)))
  (some false) := by kernel_rfl
noncomputable def spanWithin_sp : FnSpec TT := ⟨[.val (.user 0), .val (.user 0)], [.val (.bool)], fun x => spanWithin BIG x.1 x.2⟩
theorem spanWithin_ok : FnOk TT Tryz.prog 19 spanWithin_sp := fnOk_of (C := spanWithin_C) (by kernel_rfl) spanWithin_env Tryz.func19 (show Tryz.f19.body = some (bodyOf Tryz.f19) by kernel_rfl) (by kernel_rfl) (by kernel_rfl) (cuts := spanWithin_cuts) fun x y h => ⟨BIG, h⟩
noncomputable def ref11Within_C : Ctx TT := ⟨tyOf, [], 0, [], layOf⟩
theorem ref11Within_env : EnvOk TT Tryz.prog ref11Within_C.E := envNil
def ref11Within_cuts : List (Pos × Cut) := []
noncomputable def ref11Within (n : Nat) (x0 : Span) (x1 : Span) : Option (Bool) := topF TT Tryz.prog ref11Within_C ref11Within_cuts Tryz.f20 (bodyOf Tryz.f20) ⟨[], []⟩ [.val (.user 0), .val (.user 0)] [.val (.bool)] n (x0, x1)
theorem ref11Within_eq (n : Nat) (x0 : Span) (x1 : Span) : ref11Within n x0 x1 =
  forkB (decide (x0.Lo ≥ x1.Lo))
  (some (decide (x0.Hi ≤ x1.Hi)))
  (some false) := by kernel_rfl
noncomputable def ref11Within_sp : FnSpec TT := ⟨[.val (.user 0), .val (.user 0)], [.val (.bool)], fun x => ref11Within BIG x.1 x.2⟩
theorem ref11Within_ok : FnOk TT Tryz.prog 20 ref11Within_sp := fnOk_of (C := ref11Within_C) (by kernel_rfl) ref11Within_env Tryz.func20 (show Tryz.f20.body = some (bodyOf Tryz.f20) by kernel_rfl) (by kernel_rfl) (by kernel_rfl) (cuts := ref11Within_cuts) fun x y h => ⟨BIG, h⟩
noncomputable def spanHas_C : Ctx TT := ⟨tyOf, [], 0, [], layOf⟩
theorem spanHas_env : EnvOk TT Tryz.prog spanHas_C.E := envNil
def spanHas_cuts : List (Pos × Cut) := []
noncomputable def spanHas (n : Nat) (x0 : Span) (x1 : Int) : Option (Bool) := topF TT Tryz.prog spanHas_C spanHas_cuts Tryz.f21 (bodyOf Tryz.f21) ⟨[], []⟩ [.val (.user 0), .val (.int .u64)] [.val (.bool)] n (x0, x1)
theorem spanHas_eq (n : Nat) (x0 : Span) (x1 : Int) : spanHas n x0 x1 =
  forkB (decide (x0.Lo ≤ x1))
  (some (decide (x1 ≤ x0.Hi)))
  (some false) := by kernel_rfl
noncomputable def spanHas_sp : FnSpec TT := ⟨[.val (.user 0), .val (.int .u64)], [.val (.bool)], fun x => spanHas BIG x.1 x.2⟩
theorem spanHas_ok : FnOk TT Tryz.prog 21 spanHas_sp := fnOk_of (C := spanHas_C) (by kernel_rfl) spanHas_env Tryz.func21 (show Tryz.f21.body = some (bodyOf Tryz.f21) by kernel_rfl) (by kernel_rfl) (by kernel_rfl) (cuts := spanHas_cuts) fun x y h => ⟨BIG, h⟩
noncomputable def ref11Has_C : Ctx TT := ⟨tyOf, [], 0, [], layOf⟩
theorem ref11Has_env : EnvOk TT Tryz.prog ref11Has_C.E := envNil
def ref11Has_cuts : List (Pos × Cut) := []
noncomputable def ref11Has (n : Nat) (x0 : Span) (x1 : Int) : Option (Bool) := topF TT Tryz.prog ref11Has_C ref11Has_cuts Tryz.f22 (bodyOf Tryz.f22) ⟨[], []⟩ [.val (.user 0), .val (.int .u64)] [.val (.bool)] n (x0, x1)
theorem ref11Has_eq (n : Nat) (x0 : Span) (x1 : Int) : ref11Has n x0 x1 =
  forkB (decide (x1 ≥ x0.Lo))
  (some (decide (x1 ≤ x0.Hi)))
  (some false) := by kernel_rfl
noncomputable def ref11Has_sp : FnSpec TT := ⟨[.val (.user 0), .val (.int .u64)], [.val (.bool)], fun x => ref11Has BIG x.1 x.2⟩
theorem ref11Has_ok : FnOk TT Tryz.prog 22 ref11Has_sp := fnOk_of (C := ref11Has_C) (by kernel_rfl) ref11Has_env Tryz.func22 (show Tryz.f22.body = some (bodyOf Tryz.f22) by kernel_rfl) (by kernel_rfl) (by kernel_rfl) (cuts := ref11Has_cuts) fun x y h => ⟨BIG, h⟩
noncomputable def law11SpanTells_C : Ctx TT := ⟨tyOf, [(15, spanMeet_sp.toCall), (16, ref11Meet_sp.toCall), (17, spanJoin_sp.toCall), (18, ref11Join_sp.toCall), (19, spanWithin_sp.toCall), (20, ref11Within_sp.toCall), (21, spanHas_sp.toCall), (22, ref11Has_sp.toCall), (23, spanRight_sp.toCall), (24, ref11Right_sp.toCall), (25, spanOf_sp.toCall), (26, ref11Of_sp.toCall), (27, spanAll_sp.toCall), (28, ref11All_sp.toCall), (10, law11_awake_sp.toCall)], 0, [], layOf⟩
theorem law11SpanTells_env : EnvOk TT Tryz.prog law11SpanTells_C.E := envG (fnCall_ok spanMeet_ok) (envG (fnCall_ok ref11Meet_ok) (envG (fnCall_ok spanJoin_ok) (envG (fnCall_ok ref11Join_ok) (envG (fnCall_ok spanWithin_ok) (envG (fnCall_ok ref11Within_ok) (envG (fnCall_ok spanHas_ok) (envG (fnCall_ok ref11Has_ok) (envG (fnCall_ok spanRight_ok) (envG (fnCall_ok ref11Right_ok) (envG (fnCall_ok spanOf_ok) (envG (fnCall_ok ref11Of_ok) (envG (fnCall_ok spanAll_ok) (envG (fnCall_ok ref11All_ok) (envG (fnCall_ok law11_awake_ok) (envNil)))))))))))))))
def law11SpanTells_cuts : List (Pos × Cut) := []
noncomputable def law11SpanTells (n : Nat) (x0 : Span) (x1 : Span) (x2 : Int) (x3 : Bool) : Option (Bool) := topF TT Tryz.prog law11SpanTells_C law11SpanTells_cuts Tryz.f8 (bodyOf Tryz.f8) ⟨[], []⟩ [.val (.user 0), .val (.user 0), .val (.int .u64), .val (.bool)] [.val (.bool)] n (x0, x1, x2, x3)
set_option maxRecDepth 100000 in
theorem law11SpanTells_eq (n : Nat) (x0 : Span) (x1 : Span) (x2 : Int) (x3 : Bool) : law11SpanTells n x0 x1 x2 x3 =
  obind (spanMeet BIG x0 x1) fun y1 =>
  obind (ref11Meet BIG x0 x1) fun y2 =>
  forkB ((y1.1.Lo == y2.1.Lo) && (y1.1.Hi == y2.1.Hi))
  (forkB (y1.2 == y2.2)
   (obind (spanJoin BIG x0 x1) fun y3 =>
    obind (ref11Join BIG x0 x1) fun y4 =>
    forkB ((y3.Lo == y4.Lo) && (y3.Hi == y4.Hi))
    (obind (spanWithin BIG x0 x1) fun y5 =>
     obind (ref11Within BIG x0 x1) fun y6 =>
     forkB (y5 == y6)
     (obind (spanHas BIG x0 x2) fun y7 =>
      obind (ref11Has BIG x0 x2) fun y8 =>
      forkB (y7 == y8)
      (obind (spanRight BIG x0) fun y9 =>
       obind (ref11Right BIG x0) fun y10 =>
       forkB (y9 == y10)
       (obind (spanOf BIG x2) fun y11 =>
        obind (ref11Of BIG x2) fun y12 =>
        forkB ((y11.Lo == y12.Lo) && (y11.Hi == y12.Hi))
        (obind (spanAll BIG x3) fun y13 =>
         obind (ref11All BIG x3) fun y14 =>
         forkB ((y13.Lo == y14.Lo) && (y13.Hi == y14.Hi))
         (obind (law11_awake BIG ) fun y15 =>
          some y15)
         (some false))
        (some false))
       (some false))
      (some false))
     (some false))
    (some false))
   (some false))
  (some false) := by kernel_rfl
noncomputable def law11SpanTells_sp : FnSpec TT := ⟨[.val (.user 0), .val (.user 0), .val (.int .u64), .val (.bool)], [.val (.bool)], fun x => law11SpanTells BIG x.1 x.2.1 x.2.2.1 x.2.2.2⟩
theorem law11SpanTells_ok : FnOk TT Tryz.prog 8 law11SpanTells_sp := fnOk_of (C := law11SpanTells_C) (by kernel_rfl) law11SpanTells_env Tryz.func8 (show Tryz.f8.body = some (bodyOf Tryz.f8) by kernel_rfl) (by kernel_rfl) (by kernel_rfl) (cuts := law11SpanTells_cuts) fun x y h => ⟨BIG, h⟩
noncomputable def law11_ends_C : Ctx TT := ⟨tyOf, [], 0, [], layOf⟩
theorem law11_ends_env : EnvOk TT Tryz.prog law11_ends_C.E := envNil
def law11_ends_cuts : List (Pos × Cut) := []
noncomputable def law11_ends (n : Nat)  : Option (List Int) := topF TT Tryz.prog law11_ends_C law11_ends_cuts Tryz.f4 (bodyOf Tryz.f4) ⟨[], []⟩ [] [.own 25 (.int .u64)] n ()
theorem law11_ends_eq (n : Nat)  : law11_ends n  =
  some ([(0 : Int), (1 : Int), (2 : Int), (31 : Int), (32 : Int), (63 : Int), (64 : Int), (2147483647 : Int), (2147483648 : Int), (4294967294 : Int), (4294967295 : Int), (4294967296 : Int), (4294967297 : Int), (9223372036854775807 : Int), (9223372036854775808 : Int), (18446744073709551614 : Int), (18446744073709551615 : Int)] : List Int) := by kernel_rfl
noncomputable def law11_ends_sp : FnSpec TT := ⟨[], [.own 25 (.int .u64)], fun _ => law11_ends BIG ⟩
theorem law11_ends_ok : FnOk TT Tryz.prog 4 law11_ends_sp := fnOk_of (C := law11_ends_C) (by kernel_rfl) law11_ends_env Tryz.func4 (show Tryz.f4.body = some (bodyOf Tryz.f4) by kernel_rfl) (by kernel_rfl) (by kernel_rfl) (cuts := law11_ends_cuts) fun x y h => ⟨BIG, h⟩
noncomputable def law11SpanNumbers_C : Ctx TT := ⟨tyOf, [(4, law11_ends_sp.toCall), (5, law11_of_sp.toCall), (8, law11SpanTells_sp.toCall), (9, law11SpanDoes_sp.toCall), (10, law11_awake_sp.toCall), (6, law11_does_sp.toCall), (7, law11_asks_sp.toCall)], 0, [(6, 1)], layOf⟩
theorem law11SpanNumbers_env : EnvOk TT Tryz.prog law11SpanNumbers_C.E := envG (fnCall_ok law11_ends_ok) (envG (fnCall_ok law11_of_ok) (envG (fnCall_ok law11SpanTells_ok) (envG (fnCall_ok law11SpanDoes_ok) (envG (fnCall_ok law11_awake_ok) (envG (fnCall_ok law11_does_ok) (envG (fnCall_ok law11_asks_ok) (envNil)))))))
def law11SpanNumbers_cuts : List (Pos × Cut) := [([false, true, false, true, true, true], ⟨[1, 2, 3], [(2, 27, .user 0)], false, []⟩), ([false, true, false, true, true, true, true], ⟨[2, 4], [], false, []⟩), ([false, true, false, false, true, false, false, true, false, true, true, true, true], ⟨[2, 4, 5], [], false, []⟩), ([false, true, false, false, true, false, false, true, false, false, true, false, false, true, false, true, true, true, true], ⟨[2, 4, 5, 6], [], false, []⟩), ([false, true, false, false, true, false, false, true, false, false, true, false, false, true, false, false, true, false, false, true, false, true, true, true, true], ⟨[2, 4, 5, 6, 7], [], false, []⟩), ([false, false, true, false, false, true, false, false, true, false, false, true, false, false, true, false, false, true, false, false, true, false, false, true, false, true, true, true, true], ⟨[2, 4, 5, 6, 7, 119], [], false, []⟩)]
noncomputable def law11SpanNumbers (n : Nat)  : Option (Bool) := topF TT Tryz.prog law11SpanNumbers_C law11SpanNumbers_cuts Tryz.f3 (bodyOf Tryz.f3) ⟨[], []⟩ [] [.val (.bool)] n ()
noncomputable def law11SpanNumbers_L0 (n : Nat) (s3 : Int) (r0 : List Int) (r1 : List Span) : Option (Bool) := cutF TT Tryz.prog law11SpanNumbers_C law11SpanNumbers_cuts Tryz.f3 (bodyOf Tryz.f3) ⟨[], []⟩ [] [.val (.bool)] n [false, true, false, true, true, true] ⟨[(1, .own 0), (2, .own 1), (3, .cell ⟨.int .i64, s3⟩)], [.row 25 (.int .u64) r0, .row 27 (.user 0) r1]⟩
noncomputable def law11SpanNumbers_L1 (n : Nat) (s4 : Int) (r0 : List Span) : Option (Bool) := cutF TT Tryz.prog law11SpanNumbers_C law11SpanNumbers_cuts Tryz.f3 (bodyOf Tryz.f3) ⟨[], []⟩ [] [.val (.bool)] n [false, true, false, true, true, true, true] ⟨[(2, .own 0), (4, .cell ⟨.int .i64, s4⟩)], [.row 27 (.user 0) r0]⟩
noncomputable def law11SpanNumbers_L2 (n : Nat) (s4 : Int) (s5 : Int) (r0 : List Span) : Option (Bool) := cutF TT Tryz.prog law11SpanNumbers_C law11SpanNumbers_cuts Tryz.f3 (bodyOf Tryz.f3) ⟨[], []⟩ [] [.val (.bool)] n [false, true, false, false, true, false, false, true, false, true, true, true, true] ⟨[(2, .own 0), (4, .cell ⟨.int .i64, s4⟩), (5, .cell ⟨.int .i64, s5⟩)], [.row 27 (.user 0) r0]⟩
noncomputable def law11SpanNumbers_L3 (n : Nat) (s4 : Int) (s5 : Int) (s6 : Int) (r0 : List Span) : Option (Bool) := cutF TT Tryz.prog law11SpanNumbers_C law11SpanNumbers_cuts Tryz.f3 (bodyOf Tryz.f3) ⟨[], []⟩ [] [.val (.bool)] n [false, true, false, false, true, false, false, true, false, false, true, false, false, true, false, true, true, true, true] ⟨[(2, .own 0), (4, .cell ⟨.int .i64, s4⟩), (5, .cell ⟨.int .i64, s5⟩), (6, .cell ⟨.int .u8, s6⟩)], [.row 27 (.user 0) r0]⟩
noncomputable def law11SpanNumbers_L4 (n : Nat) (s4 : Int) (s5 : Int) (s6 : Int) (s7 : Int) (r0 : List Span) : Option (Bool) := cutF TT Tryz.prog law11SpanNumbers_C law11SpanNumbers_cuts Tryz.f3 (bodyOf Tryz.f3) ⟨[], []⟩ [] [.val (.bool)] n [false, true, false, false, true, false, false, true, false, false, true, false, false, true, false, false, true, false, false, true, false, true, true, true, true] ⟨[(2, .own 0), (4, .cell ⟨.int .i64, s4⟩), (5, .cell ⟨.int .i64, s5⟩), (6, .cell ⟨.int .u8, s6⟩), (7, .cell ⟨.int .i64, s7⟩)], [.row 27 (.user 0) r0]⟩
noncomputable def law11SpanNumbers_J5 (n : Nat) (s4 : Int) (s5 : Int) (s6 : Int) (s7 : Int) (s119 : Bool) (r0 : List Span) : Option (Bool) := cutF TT Tryz.prog law11SpanNumbers_C law11SpanNumbers_cuts Tryz.f3 (bodyOf Tryz.f3) ⟨[], []⟩ [] [.val (.bool)] n [false, false, true, false, false, true, false, false, true, false, false, true, false, false, true, false, false, true, false, false, true, false, false, true, false, true, true, true, true] ⟨[(2, .own 0), (4, .cell ⟨.int .i64, s4⟩), (5, .cell ⟨.int .i64, s5⟩), (6, .cell ⟨.int .u8, s6⟩), (7, .cell ⟨.int .i64, s7⟩), (119, .cell ⟨.bool, s119⟩)], [.row 27 (.user 0) r0]⟩
theorem law11SpanNumbers_eq (n : Nat)  : law11SpanNumbers n  =
  obind (law11_ends BIG ) fun y1 =>
  law11SpanNumbers_L0 n (0 : Int) y1 ([] : List Span) := by kernel_rfl
theorem law11SpanNumbers_L0_eq (n : Nat) (s3 : Int) (r0 : List Int) (r1 : List Span) : law11SpanNumbers_L0 (n + 1) s3 r0 r1 =
  forkB (decide (s3 < ((r0.length : Nat) : Int)))
  (if 0 ≤ s3 ∧ s3 < ((r0.length : Nat) : Int) then (if 0 ≤ s3 ∧ s3 < ((r0.length : Nat) : Int) then (obind (law11_of BIG (r0.getD s3.toNat (0 : Int)) (r0.getD s3.toNat (0 : Int))) fun y1 =>
   if 0 ≤ s3 ∧ s3 < ((r0.length : Nat) : Int) then (if 0 ≤ gMin (IntKind.i64.wrap (s3 + (1 : Int))) (IntKind.i64.wrap (((r0.length : Nat) : Int) - (1 : Int))) ∧ gMin (IntKind.i64.wrap (s3 + (1 : Int))) (IntKind.i64.wrap (((r0.length : Nat) : Int) - (1 : Int))) < ((r0.length : Nat) : Int) then (obind (law11_of BIG (r0.getD s3.toNat (0 : Int)) (r0.getD ((gMin (IntKind.i64.wrap (s3 + (1 : Int))) (IntKind.i64.wrap (((r0.length : Nat) : Int) - (1 : Int)))).toNat) (0 : Int))) fun y2 =>
   if 0 ≤ s3 ∧ s3 < ((r0.length : Nat) : Int) then (if 0 ≤ gMin (IntKind.i64.wrap (s3 + (4 : Int))) (IntKind.i64.wrap (((r0.length : Nat) : Int) - (1 : Int))) ∧ gMin (IntKind.i64.wrap (s3 + (4 : Int))) (IntKind.i64.wrap (((r0.length : Nat) : Int) - (1 : Int))) < ((r0.length : Nat) : Int) then (obind (law11_of BIG (r0.getD s3.toNat (0 : Int)) (r0.getD ((gMin (IntKind.i64.wrap (s3 + (4 : Int))) (IntKind.i64.wrap (((r0.length : Nat) : Int) - (1 : Int)))).toNat) (0 : Int))) fun y3 =>
   if 0 ≤ IntKind.i64.wrap (s3.tdiv (2 : Int)) ∧ IntKind.i64.wrap (s3.tdiv (2 : Int)) < ((r0.length : Nat) : Int) then (if 0 ≤ s3 ∧ s3 < ((r0.length : Nat) : Int) then (obind (law11_of BIG (r0.getD ((IntKind.i64.wrap (s3.tdiv (2 : Int))).toNat) (0 : Int)) (r0.getD s3.toNat (0 : Int))) fun y4 =>
   if (r1.length + 4) * 16 ≤ 140737488355328 then (law11SpanNumbers_L0 n (IntKind.i64.wrap (s3 + (1 : Int))) r0 (r1 ++ ([y1, y2, y3, y4] : List Span))) else none) else none) else none) else none) else none) else none) else none) else none) else none)
  (law11SpanNumbers_L1 n (0 : Int) r1) := by kernel_rfl
theorem law11SpanNumbers_L1_eq (n : Nat) (s4 : Int) (r0 : List Span) : law11SpanNumbers_L1 (n + 1) s4 r0 =
  forkB (decide (s4 < ((r0.length : Nat) : Int)))
  (law11SpanNumbers_L2 n s4 (0 : Int) r0)
  (obind (law11_of BIG (5 : Int) (4 : Int)) fun y1 =>
   obind (law11_of BIG (9 : Int) (1 : Int)) fun y2 =>
   obind (law11SpanTells BIG y1 y2 (4 : Int) true) fun y3 =>
   forkB y3
   (obind (law11_of BIG (5 : Int) (4 : Int)) fun y4 =>
    obind (law11_of BIG (1 : Int) (1 : Int)) fun y5 =>
    obind (law11SpanDoes BIG (1 : Int) false true y4 y5) fun y6 =>
    forkB y6
    (obind (law11_of BIG (1 : Int) (1 : Int)) fun y7 =>
     obind (law11_of BIG (5 : Int) (4 : Int)) fun y8 =>
     obind (law11SpanDoes BIG (17 : Int) false true y7 y8) fun y9 =>
     forkB y9
     (obind (law11_awake BIG ) fun y10 =>
      some y10)
     (some false))
    (some false))
   (some false)) := by kernel_rfl
theorem law11SpanNumbers_L2_eq (n : Nat) (s4 : Int) (s5 : Int) (r0 : List Span) : law11SpanNumbers_L2 (n + 1) s4 s5 r0 =
  forkB (decide (s5 < ((r0.length : Nat) : Int)))
  (law11SpanNumbers_L3 n s4 s5 (0 : Int) r0)
  (law11SpanNumbers_L1 n (IntKind.i64.wrap (s4 + (1 : Int))) r0) := by kernel_rfl
theorem law11SpanNumbers_L3_eq (n : Nat) (s4 : Int) (s5 : Int) (s6 : Int) (r0 : List Span) : law11SpanNumbers_L3 (n + 1) s4 s5 s6 r0 =
  forkB (decide (s6 < (30 : Int)))
  (law11SpanNumbers_L4 n s4 s5 s6 (0 : Int) r0)
  (law11SpanNumbers_L2 n s4 (IntKind.i64.wrap (s5 + (1 : Int))) r0) := by kernel_rfl
theorem law11SpanNumbers_L4_eq (n : Nat) (s4 : Int) (s5 : Int) (s6 : Int) (s7 : Int) (r0 : List Span) : law11SpanNumbers_L4 (n + 1) s4 s5 s6 s7 r0 =
  forkB (decide (s7 < (4 : Int)))
  (forkB (decide (s7 < (2 : Int)))
   (if 0 ≤ s4 ∧ s4 < ((r0.length : Nat) : Int) then (if 0 ≤ s5 ∧ s5 < ((r0.length : Nat) : Int) then (obind (law11_does BIG s6 (s7 == (1 : Int)) (r0.getD s4.toNat dSpan) (r0.getD s5.toNat dSpan)) fun y1 =>
    forkB (!y1)
    (law11SpanNumbers_J5 n s4 s5 s6 s7 true r0)
    (if 0 ≤ s4 ∧ s4 < ((r0.length : Nat) : Int) then (if 0 ≤ s5 ∧ s5 < ((r0.length : Nat) : Int) then (obind (law11_asks BIG s6 ((s7.tmod (2 : Int)) == (1 : Int)) (decide (s7 > (1 : Int))) (r0.getD s4.toNat dSpan) (r0.getD s5.toNat dSpan)) fun y2 =>
     law11SpanNumbers_J5 n s4 s5 s6 s7 (!y2) r0) else none) else none)) else none) else none)
   (if 0 ≤ s4 ∧ s4 < ((r0.length : Nat) : Int) then (if 0 ≤ s5 ∧ s5 < ((r0.length : Nat) : Int) then (obind (law11_asks BIG s6 ((s7.tmod (2 : Int)) == (1 : Int)) (decide (s7 > (1 : Int))) (r0.getD s4.toNat dSpan) (r0.getD s5.toNat dSpan)) fun y3 =>
    law11SpanNumbers_J5 n s4 s5 s6 s7 (!y3) r0) else none) else none))
  (law11SpanNumbers_L3 n s4 s5 (IntKind.u8.wrap (s6 + (1 : Int))) r0) := by kernel_rfl
theorem law11SpanNumbers_J5_eq (n : Nat) (s4 : Int) (s5 : Int) (s6 : Int) (s7 : Int) (s119 : Bool) (r0 : List Span) : law11SpanNumbers_J5 (n + 1) s4 s5 s6 s7 s119 r0 =
  forkB s119
  (some false)
  (law11SpanNumbers_L4 n s4 s5 s6 (IntKind.i64.wrap (s7 + (1 : Int))) r0) := by kernel_rfl
noncomputable def law11SpanNumbers_sp : FnSpec TT := ⟨[], [.val (.bool)], fun _ => law11SpanNumbers BIG ⟩
theorem law11SpanNumbers_ok : FnOk TT Tryz.prog 3 law11SpanNumbers_sp := fnOk_of (C := law11SpanNumbers_C) (by kernel_rfl) law11SpanNumbers_env Tryz.func3 (show Tryz.f3.body = some (bodyOf Tryz.f3) by kernel_rfl) (by kernel_rfl) (by kernel_rfl) (cuts := law11SpanNumbers_cuts) fun x y h => ⟨BIG, h⟩
end Go.X
