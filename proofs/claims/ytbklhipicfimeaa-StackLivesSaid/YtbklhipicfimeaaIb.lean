/- What the laws of rows compute. -/
import Derived.Test.YtbklhipicfimeaaIa
namespace Go.X
open Go.RowKit Go.V Go.Proofs
noncomputable def kitPick_C : Ctx TT := ⟨tyOf, [], 0, [], layOf⟩
theorem kitPick_env : EnvOk TT Try.prog kitPick_C.E := envNil
def kitPick_cuts : List (Pos × Cut) := []
noncomputable def kitPick (n : Nat) (x0 : Int) (x1 : Int) : Option (Int) := topF TT Try.prog kitPick_C kitPick_cuts Try.f21 (bodyOf Try.f21) ⟨[], []⟩ [.val (.int .i64), .val (.int .i64)] [.val (.int .i64)] n (x0, x1)
theorem kitPick_eq (n : Nat) (x0 : Int) (x1 : Int) : kitPick n x0 x1 =
  forkB (decide (x1 < (1 : Int)))
  (some (0 : Int))
  (if x1 = 0 then none else (forkB (decide ((x0.tmod x1) < (0 : Int)))
   (some (IntKind.i64.wrap ((x0.tmod x1) + x1)))
   (some (x0.tmod x1)))) := by kernel_rfl
noncomputable def kitPick_sp : FnSpec TT := ⟨[.val (.int .i64), .val (.int .i64)], [.val (.int .i64)], fun x => kitPick BIG x.1 x.2⟩
theorem kitPick_ok : FnOk TT Try.prog 21 kitPick_sp := fnOk_of (C := kitPick_C) (by kernel_rfl) kitPick_env Try.func21 (show Try.f21.body = some (bodyOf Try.f21) by kernel_rfl) (by kernel_rfl) (by kernel_rfl) (cuts := kitPick_cuts) fun x y h => ⟨BIG, h⟩
noncomputable def law13_reads_C : Ctx TT := ⟨tyOf, [(13, stackRead_sp.toCall)], 0, [], layOf⟩
theorem law13_reads_env : EnvOk TT Try.prog law13_reads_C.E := envG (fnCall_ok stackRead_ok) (envNil)
def law13_reads_cuts : List (Pos × Cut) := []
noncomputable def law13_reads (n : Nat) (x0 : List Bool) (x1 : Int) (x2 : Int) (x3 : Int) : Option (Bool) := topF TT Try.prog law13_reads_C law13_reads_cuts Try.f22 (bodyOf Try.f22) ⟨[], []⟩ [.val (.list (.bool)), .val (.int .i64), .val (.int .i64), .val (.int .i64)] [.val (.bool)] n (x0, x1, x2, x3)
theorem law13_reads_eq (n : Nat) (x0 : List Bool) (x1 : Int) (x2 : Int) (x3 : Int) : law13_reads n x0 x1 x2 x3 =
  obind (stackRead BIG x0 x1 x2) fun y1 =>
  some (y1 == x3) := by kernel_rfl
noncomputable def law13_reads_sp : FnSpec TT := ⟨[.val (.list (.bool)), .val (.int .i64), .val (.int .i64), .val (.int .i64)], [.val (.bool)], fun x => law13_reads BIG x.1 x.2.1 x.2.2.1 x.2.2.2⟩
theorem law13_reads_ok : FnOk TT Try.prog 22 law13_reads_sp := fnOk_of (C := law13_reads_C) (by kernel_rfl) law13_reads_env Try.func22 (show Try.f22.body = some (bodyOf Try.f22) by kernel_rfl) (by kernel_rfl) (by kernel_rfl) (cuts := law13_reads_cuts) fun x y h => ⟨BIG, h⟩
noncomputable def law13_awake_C : Ctx TT := ⟨tyOf, [(18, stackNew_sp.toCall), (9, stackSet_sp.toCall), (22, law13_reads_sp.toCall)], 0, [], layOf⟩
theorem law13_awake_env : EnvOk TT Try.prog law13_awake_C.E := envG (fnCall_ok stackNew_ok) (envG (fnCall_ok stackSet_ok) (envG (fnCall_ok law13_reads_ok) (envNil)))
def law13_awake_cuts : List (Pos × Cut) := []
noncomputable def law13_awake (n : Nat)  : Option (Bool) := topF TT Try.prog law13_awake_C law13_awake_cuts Try.f7 (bodyOf Try.f7) ⟨[], []⟩ [] [.val (.bool)] n ()
theorem law13_awake_eq (n : Nat)  : law13_awake n  =
  obind (stackNew BIG ) fun y1 =>
  obind (stackSet BIG y1 (-8 : Int) (4 : Int)) fun y2 =>
  obind (stackNew BIG ) fun y3 =>
  obind (stackSet BIG y3 (-8 : Int) (3 : Int)) fun y4 =>
  forkB (y2.2 == (0 : Int))
  (obind (law13_reads BIG y2.1 (-8 : Int) (4 : Int) (0 : Int)) fun y5 =>
   forkB y5
   (obind (law13_reads BIG y2.1 (-6 : Int) (2 : Int) (0 : Int)) fun y6 =>
    forkB y6
    (obind (law13_reads BIG y2.1 (-8 : Int) (8 : Int) (110 : Int)) fun y7 =>
     forkB y7
     (obind (law13_reads BIG y2.1 (-4 : Int) (8 : Int) (112 : Int)) fun y8 =>
      forkB y8
      (some (y4.2 == (2 : Int)))
      (some false))
     (some false))
    (some false))
   (some false))
  (some false) := by kernel_rfl
noncomputable def law13_awake_sp : FnSpec TT := ⟨[], [.val (.bool)], fun _ => law13_awake BIG ⟩
theorem law13_awake_ok : FnOk TT Try.prog 7 law13_awake_sp := fnOk_of (C := law13_awake_C) (by kernel_rfl) law13_awake_env Try.func7 (show Try.f7.body = some (bodyOf Try.f7) by kernel_rfl) (by kernel_rfl) (by kernel_rfl) (cuts := law13_awake_cuts) fun x y h => ⟨BIG, h⟩
noncomputable def law13StackLives_C : Ctx TT := ⟨tyOf, [(18, stackNew_sp.toCall), (19, ref13New_sp.toCall), (21, kitPick_sp.toCall), (13, stackRead_sp.toCall), (14, ref13Read_sp.toCall), (11, stackJoin_sp.toCall), (17, ref13Join_sp.toCall), (9, stackSet_sp.toCall), (10, ref13Set_sp.toCall), (7, law13_awake_sp.toCall), (12, kitSameTruths_sp.toCall), (15, stackWithin_sp.toCall), (16, ref13Within_sp.toCall)], 0, [(8, 1), (9, 1), (18, 1)], layOf⟩
theorem law13StackLives_env : EnvOk TT Try.prog law13StackLives_C.E := envG (fnCall_ok stackNew_ok) (envG (fnCall_ok ref13New_ok) (envG (fnCall_ok kitPick_ok) (envG (fnCall_ok stackRead_ok) (envG (fnCall_ok ref13Read_ok) (envG (fnCall_ok stackJoin_ok) (envG (fnCall_ok ref13Join_ok) (envG (fnCall_ok stackSet_ok) (envG (fnCall_ok ref13Set_ok) (envG (fnCall_ok law13_awake_ok) (envG (fnCall_ok kitSameTruths_ok) (envG (fnCall_ok stackWithin_ok) (envG (fnCall_ok ref13Within_ok) (envNil)))))))))))))
def law13StackLives_cuts : List (Pos × Cut) := [([false, true, false, true, true, true], ⟨[0, 3, 4, 5], [], false, []⟩), ([false, false, false, true, false, true, true, true], ⟨[0, 3, 4, 5, 24], [], false, []⟩), ([true, false, false, true, false, false, true, false, true, true, true], ⟨[0, 3, 4, 5, 6], [], false, []⟩), ([true, true, false, false, true, false, false, true, false, true, true, true], ⟨[0, 3, 4, 5, 179], [], false, []⟩)]
noncomputable def law13StackLives (n : Nat) (x0 : List Do) : Option (Bool) := topF TT Try.prog law13StackLives_C law13StackLives_cuts Try.f4 (bodyOf Try.f4) ⟨[], []⟩ [.val (.list (.user 0))] [.val (.bool)] n x0
noncomputable def law13StackLives_L0 (n : Nat) (s0 : List Do) (s5 : Int) (r0 : List (List Bool)) (r1 : List (List Bool)) : Option (Bool) := cutF TT Try.prog law13StackLives_C law13StackLives_cuts Try.f4 (bodyOf Try.f4) ⟨[], []⟩ [.val (.list (.user 0))] [.val (.bool)] n [false, true, false, true, true, true] ⟨[(0, .cell ⟨.list (.user 0), s0⟩), (3, .own 0), (4, .own 1), (5, .cell ⟨.int .i64, s5⟩)], [.row 22 (.list (.bool)) r0, .row 22 (.list (.bool)) r1]⟩
noncomputable def law13StackLives_J1 (n : Nat) (s0 : List Do) (s5 : Int) (s24 : Bool) (r0 : List (List Bool)) (r1 : List (List Bool)) : Option (Bool) := cutF TT Try.prog law13StackLives_C law13StackLives_cuts Try.f4 (bodyOf Try.f4) ⟨[], []⟩ [.val (.list (.user 0))] [.val (.bool)] n [false, false, false, true, false, true, true, true] ⟨[(0, .cell ⟨.list (.user 0), s0⟩), (3, .own 0), (4, .own 1), (5, .cell ⟨.int .i64, s5⟩), (24, .cell ⟨.bool, s24⟩)], [.row 22 (.list (.bool)) r0, .row 22 (.list (.bool)) r1]⟩
noncomputable def law13StackLives_J2 (n : Nat) (s0 : List Do) (s5 : Int) (s6 : Int) (r0 : List (List Bool)) (r1 : List (List Bool)) : Option (Bool) := cutF TT Try.prog law13StackLives_C law13StackLives_cuts Try.f4 (bodyOf Try.f4) ⟨[], []⟩ [.val (.list (.user 0))] [.val (.bool)] n [true, false, false, true, false, false, true, false, true, true, true] ⟨[(0, .cell ⟨.list (.user 0), s0⟩), (3, .own 0), (4, .own 1), (5, .cell ⟨.int .i64, s5⟩), (6, .cell ⟨.int .i64, s6⟩)], [.row 22 (.list (.bool)) r0, .row 22 (.list (.bool)) r1]⟩
noncomputable def law13StackLives_J3 (n : Nat) (s0 : List Do) (s5 : Int) (s179 : Bool) (r0 : List (List Bool)) (r1 : List (List Bool)) : Option (Bool) := cutF TT Try.prog law13StackLives_C law13StackLives_cuts Try.f4 (bodyOf Try.f4) ⟨[], []⟩ [.val (.list (.user 0))] [.val (.bool)] n [true, true, false, false, true, false, false, true, false, true, true, true] ⟨[(0, .cell ⟨.list (.user 0), s0⟩), (3, .own 0), (4, .own 1), (5, .cell ⟨.int .i64, s5⟩), (179, .cell ⟨.bool, s179⟩)], [.row 22 (.list (.bool)) r0, .row 22 (.list (.bool)) r1]⟩
theorem law13StackLives_eq (n : Nat) (x0 : List Do) : law13StackLives n x0 =
  obind (stackNew BIG ) fun y1 =>
  obind (stackNew BIG ) fun y2 =>
  obind (ref13New BIG ) fun y3 =>
  obind (ref13New BIG ) fun y4 =>
  law13StackLives_L0 n x0 (0 : Int) ([y1, y2] : List (List Bool)) ([y3, y4] : List (List Bool)) := by kernel_rfl
theorem law13StackLives_L0_eq (n : Nat) (s0 : List Do) (s5 : Int) (r0 : List (List Bool)) (r1 : List (List Bool)) : law13StackLives_L0 (n + 1) s0 s5 r0 r1 =
  forkB (decide (s5 < ((s0.length : Nat) : Int)))
  (law13StackLives_J1 n s0 s5 (decide (s5 < (60 : Int))) r0 r1)
  (law13StackLives_J1 n s0 s5 false r0 r1) := by kernel_rfl
theorem law13StackLives_J1_eq (n : Nat) (s0 : List Do) (s5 : Int) (s24 : Bool) (r0 : List (List Bool)) (r1 : List (List Bool)) : law13StackLives_J1 (n + 1) s0 s5 s24 r0 r1 =
  forkB s24
  (if 0 ≤ s5 ∧ s5 < ((s0.length : Nat) : Int) then (obind (kitPick BIG ((s0.getD s5.toNat dDo).Which) (2 : Int)) fun y1 =>
   if 0 ≤ s5 ∧ s5 < ((s0.length : Nat) : Int) then (obind (kitPick BIG ((s0.getD s5.toNat dDo).Op) (6 : Int)) fun y2 =>
   forkB (y2 == (3 : Int))
   (if 0 ≤ y1 ∧ y1 < ((r0.length : Nat) : Int) then (if 0 ≤ s5 ∧ s5 < ((s0.length : Nat) : Int) then (if 0 ≤ s5 ∧ s5 < ((s0.length : Nat) : Int) then (obind (stackRead BIG (r0.getD y1.toNat ([] : List Bool)) ((s0.getD s5.toNat dDo).At) ((s0.getD s5.toNat dDo).Size)) fun y3 =>
    if 0 ≤ y1 ∧ y1 < ((r1.length : Nat) : Int) then (if 0 ≤ s5 ∧ s5 < ((s0.length : Nat) : Int) then (if 0 ≤ s5 ∧ s5 < ((s0.length : Nat) : Int) then (obind (ref13Read BIG (r1.getD y1.toNat ([] : List Bool)) ((s0.getD s5.toNat dDo).At) ((s0.getD s5.toNat dDo).Size)) fun y4 =>
    forkB (y3 != y4)
    (some false)
    (law13StackLives_J2 n s0 s5 y1 r0 r1)) else none) else none) else none) else none) else none) else none)
   (forkB (y2 == (4 : Int))
    (if 0 ≤ (0 : Int) ∧ (0 : Int) < ((r0.length : Nat) : Int) then (if 0 ≤ (1 : Int) ∧ (1 : Int) < ((r0.length : Nat) : Int) then (obind (stackJoin BIG (r0.getD 0 ([] : List Bool)) (r0.getD 1 ([] : List Bool))) fun y5 =>
     if 0 ≤ (0 : Int) ∧ (0 : Int) < ((r1.length : Nat) : Int) then (if 0 ≤ (1 : Int) ∧ (1 : Int) < ((r1.length : Nat) : Int) then (obind (ref13Join BIG (r1.getD 0 ([] : List Bool)) (r1.getD 1 ([] : List Bool))) fun y6 =>
     if 0 ≤ y1 ∧ y1 < ((r0.length : Nat) : Int) then (if 0 ≤ y1 ∧ y1 < ((r1.length : Nat) : Int) then (law13StackLives_J2 n s0 s5 y1 (r0.set y1.toNat y5) (r1.set y1.toNat y6)) else none) else none) else none) else none) else none) else none)
    (forkB (y2 == (5 : Int))
     (obind (stackNew BIG ) fun y7 =>
      obind (ref13New BIG ) fun y8 =>
      if 0 ≤ y1 ∧ y1 < ((r0.length : Nat) : Int) then (if 0 ≤ y1 ∧ y1 < ((r1.length : Nat) : Int) then (law13StackLives_J2 n s0 s5 y1 (r0.set y1.toNat y7) (r1.set y1.toNat y8)) else none) else none)
     (if 0 ≤ y1 ∧ y1 < ((r0.length : Nat) : Int) then (if 0 ≤ s5 ∧ s5 < ((s0.length : Nat) : Int) then (if 0 ≤ s5 ∧ s5 < ((s0.length : Nat) : Int) then (obind (stackSet BIG (r0.getD y1.toNat ([] : List Bool)) ((s0.getD s5.toNat dDo).At) ((s0.getD s5.toNat dDo).Size)) fun y9 =>
      if 0 ≤ y1 ∧ y1 < ((r1.length : Nat) : Int) then (if 0 ≤ s5 ∧ s5 < ((s0.length : Nat) : Int) then (if 0 ≤ s5 ∧ s5 < ((s0.length : Nat) : Int) then (obind (ref13Set BIG (r1.getD y1.toNat ([] : List Bool)) ((s0.getD s5.toNat dDo).At) ((s0.getD s5.toNat dDo).Size)) fun y10 =>
      forkB (y9.2 != y10.2)
      (some false)
      (forkB (y9.2 == (0 : Int))
       (if 0 ≤ y1 ∧ y1 < ((r0.length : Nat) : Int) then (if 0 ≤ y1 ∧ y1 < ((r1.length : Nat) : Int) then (law13StackLives_J2 n s0 s5 y1 (r0.set y1.toNat y9.1) (r1.set y1.toNat y10.1)) else none) else none)
       (law13StackLives_J2 n s0 s5 y1 r0 r1))) else none) else none) else none) else none) else none) else none)))) else none) else none)
  (obind (law13_awake BIG ) fun y11 =>
   some y11) := by kernel_rfl
theorem law13StackLives_J2_eq (n : Nat) (s0 : List Do) (s5 : Int) (s6 : Int) (r0 : List (List Bool)) (r1 : List (List Bool)) : law13StackLives_J2 (n + 1) s0 s5 s6 r0 r1 =
  if 0 ≤ s6 ∧ s6 < ((r0.length : Nat) : Int) then (if 0 ≤ s6 ∧ s6 < ((r1.length : Nat) : Int) then (obind (kitSameTruths BIG (r0.getD s6.toNat ([] : List Bool)) (r1.getD s6.toNat ([] : List Bool))) fun y1 =>
  forkB (!y1)
  (law13StackLives_J3 n s0 s5 true r0 r1)
  (if 0 ≤ (0 : Int) ∧ (0 : Int) < ((r0.length : Nat) : Int) then (if 0 ≤ (1 : Int) ∧ (1 : Int) < ((r0.length : Nat) : Int) then (obind (stackWithin BIG (r0.getD 0 ([] : List Bool)) (r0.getD 1 ([] : List Bool))) fun y2 =>
   if 0 ≤ (0 : Int) ∧ (0 : Int) < ((r1.length : Nat) : Int) then (if 0 ≤ (1 : Int) ∧ (1 : Int) < ((r1.length : Nat) : Int) then (obind (ref13Within BIG (r1.getD 0 ([] : List Bool)) (r1.getD 1 ([] : List Bool))) fun y3 =>
   law13StackLives_J3 n s0 s5 (!(y2 == y3)) r0 r1) else none) else none) else none) else none)) else none) else none := by kernel_rfl
theorem law13StackLives_J3_eq (n : Nat) (s0 : List Do) (s5 : Int) (s179 : Bool) (r0 : List (List Bool)) (r1 : List (List Bool)) : law13StackLives_J3 (n + 1) s0 s5 s179 r0 r1 =
  forkB s179
  (some false)
  (law13StackLives_L0 n s0 (IntKind.i64.wrap (s5 + (1 : Int))) r0 r1) := by kernel_rfl
noncomputable def law13StackLives_sp : FnSpec TT := ⟨[.val (.list (.user 0))], [.val (.bool)], fun x => law13StackLives BIG x⟩
theorem law13StackLives_ok : FnOk TT Try.prog 4 law13StackLives_sp := fnOk_of (C := law13StackLives_C) (by kernel_rfl) law13StackLives_env Try.func4 (show Try.f4.body = some (bodyOf Try.f4) by kernel_rfl) (by kernel_rfl) (by kernel_rfl) (cuts := law13StackLives_cuts) fun x y h => ⟨BIG, h⟩
noncomputable def kit_mark_C : Ctx TT := ⟨tyOf, [], 0, [], layOf⟩
theorem kit_mark_env : EnvOk TT Try.prog kit_mark_C.E := envNil
def kit_mark_cuts : List (Pos × Cut) := []
noncomputable def kit_mark (n : Nat) (x0 : Int) (x1 : Int) : Option (Int) := topF TT Try.prog kit_mark_C kit_mark_cuts Try.f24 (bodyOf Try.f24) ⟨[], []⟩ [.val (.int .i64), .val (.int .i64)] [.val (.int .i64)] n (x0, x1)
theorem kit_mark_eq (n : Nat) (x0 : Int) (x1 : Int) : kit_mark n x0 x1 =
  some (IntKind.i64.wrap ((IntKind.i64.wrap ((1000003 : Int) * (IntKind.i64.wrap (x0 + (7 : Int))))) + x1)) := by kernel_rfl
noncomputable def kit_mark_sp : FnSpec TT := ⟨[.val (.int .i64), .val (.int .i64)], [.val (.int .i64)], fun x => kit_mark BIG x.1 x.2⟩
theorem kit_mark_ok : FnOk TT Try.prog 24 kit_mark_sp := fnOk_of (C := kit_mark_C) (by kernel_rfl) kit_mark_env Try.func24 (show Try.f24.body = some (bodyOf Try.f24) by kernel_rfl) (by kernel_rfl) (by kernel_rfl) (cuts := kit_mark_cuts) fun x y h => ⟨BIG, h⟩
noncomputable def kitLentTruths_g1_C : Ctx TT := ⟨tyOf, [(24, kit_mark_sp.toCall)], 0, [], layOf⟩
theorem kitLentTruths_g1_env : EnvOk TT Try.prog kitLentTruths_g1_C.E := envG (fnCall_ok kit_mark_ok) (envNil)
def kitLentTruths_g1_cuts : List (Pos × Cut) := [([false, true, false, true, true, true], ⟨[0, 3, 4], [], false, []⟩)]
noncomputable def kitLentTruths_g1 (n : Nat) (x0 : List Bool) : Option ((Unit) × ((List Bool × Nat × Nat) × Unit)) := topG TT Try.prog kitLentTruths_g1_C kitLentTruths_g1_cuts Try.f8 (bodyOf Try.f8) ⟨[], [], [], [], []⟩ [.val (.list (.bool))] [] [.slr 4 (.bool)] n (x0, ())
noncomputable def kitLentTruths_g1_L0 (n : Nat) (s0 : List Bool) (s4 : Int) (r0 : List Bool) : Option ((Unit) × ((List Bool × Nat × Nat) × Unit)) := cutG TT Try.prog kitLentTruths_g1_C kitLentTruths_g1_cuts Try.f8 (bodyOf Try.f8) ⟨[], [], [], [], []⟩ [] [.slr 4 (.bool)] n [false, true, false, true, true, true] ⟨[(0, .cell ⟨.list (.bool), s0⟩), (3, .own 0), (4, .cell ⟨.int .i64, s4⟩)], [.row 4 (.bool) r0]⟩
theorem kitLentTruths_g1_eq (n : Nat) (x0 : List Bool) : kitLentTruths_g1 n x0 =
  if 0 ≤ (0 : Int) ∧ (0 : Int) ≤ IntKind.i64.wrap (((x0.length : Nat) : Int) + (12 : Int)) ∧ 1 * ((IntKind.i64.wrap (((x0.length : Nat) : Int) + (12 : Int))).toNat) ≤ 281474976710656 ∧ IntKind.i64.wrap (((x0.length : Nat) : Int) + (12 : Int)) ≤ 9223372036854775807 then (if ((List.replicate 0 false).length + x0.length) * 1 ≤ 140737488355328 then (kitLentTruths_g1_L0 n x0 (0 : Int) ((List.replicate 0 false) ++ x0)) else none) else none := by kernel_rfl
theorem kitLentTruths_g1_L0_eq (n : Nat) (s0 : List Bool) (s4 : Int) (r0 : List Bool) : kitLentTruths_g1_L0 (n + 1) s0 s4 r0 =
  forkB (decide (s4 < (12 : Int)))
  (obind (kit_mark BIG (1 : Int) s4) fun y1 =>
   if (r0.length + 1) * 1 ≤ 140737488355328 then (kitLentTruths_g1_L0 n s0 (IntKind.i64.wrap (s4 + (1 : Int))) (r0 ++ ([(y1.tmod (3 : Int)) == (0 : Int)] : List Bool))) else none)
  (if 0 ≤ (0 : Int) ∧ (0 : Int) ≤ ((s0.length : Nat) : Int) ∧ ((s0.length : Nat) : Int) ≤ ((r0.length : Nat) : Int) then (some ((), ((r0, 0, (((s0.length : Nat) : Int).toNat) - 0), ()))) else none) := by kernel_rfl
noncomputable def kitLentTruths_g1_sp : GSpec TT := ⟨[.val (.list (.bool))], [], [.slr 4 (.bool)], fun x => kitLentTruths_g1 BIG x.1⟩
theorem kitLentTruths_g1_ok : GOk TT Try.prog 8 kitLentTruths_g1_sp := gOk_of (C := kitLentTruths_g1_C) (cuts := kitLentTruths_g1_cuts) (by kernel_rfl) kitLentTruths_g1_env Try.func8 (show Try.f8.body = some (bodyOf Try.f8) by kernel_rfl) (by kernel_rfl) (by kernel_rfl) (by kernel_rfl) fun x y h => ⟨BIG, h⟩
noncomputable def kitKeptTruths_g1_C : Ctx TT := ⟨tyOf, [(24, kit_mark_sp.toCall)], 1, [], layOf⟩
theorem kitKeptTruths_g1_env : EnvOk TT Try.prog kitKeptTruths_g1_C.E := envG (fnCall_ok kit_mark_ok) (envNil)
def kitKeptTruths_g1_cuts : List (Pos × Cut) := [([false, true, false, true, true, true], ⟨[1, 5, 6], [], false, []⟩), ([false, false, true, false, false, true, false, true, true, true], ⟨[1, 5, 6, 59], [], false, []⟩)]
noncomputable def kitKeptTruths_g1 (n : Nat) (x0 : List Bool) (x1 : Nat) (x2 : Nat) (x3 : List Bool) : Option ((List Bool × Unit) × (Bool × Unit)) := topG TT Try.prog kitKeptTruths_g1_C kitKeptTruths_g1_cuts Try.f20 (bodyOf Try.f20) ⟨[], [], [], [], []⟩ [.slr 4 (.bool), .val (.list (.bool))] [.row 4 (.bool)] [.val (.bool)] n ((x0, x1, x2), x3, ())
noncomputable def kitKeptTruths_g1_L0 (n : Nat) (s1 : List Bool) (s5o : Nat) (s5n : Nat) (s6 : Int) (r0 : List Bool) : Option ((List Bool × Unit) × (Bool × Unit)) := cutG TT Try.prog kitKeptTruths_g1_C kitKeptTruths_g1_cuts Try.f20 (bodyOf Try.f20) ⟨[], [], [], [], []⟩ [.row 4 (.bool)] [.val (.bool)] n [false, true, false, true, true, true] ⟨[(1, .cell ⟨.list (.bool), s1⟩), (5, .sl 0 1 s5o s5n), (6, .cell ⟨.int .i64, s6⟩)], [.row 4 (.bool) r0]⟩
noncomputable def kitKeptTruths_g1_J1 (n : Nat) (s1 : List Bool) (s5o : Nat) (s5n : Nat) (s6 : Int) (s59 : Bool) (r0 : List Bool) : Option ((List Bool × Unit) × (Bool × Unit)) := cutG TT Try.prog kitKeptTruths_g1_C kitKeptTruths_g1_cuts Try.f20 (bodyOf Try.f20) ⟨[], [], [], [], []⟩ [.row 4 (.bool)] [.val (.bool)] n [false, false, true, false, false, true, false, true, true, true] ⟨[(1, .cell ⟨.list (.bool), s1⟩), (5, .sl 0 1 s5o s5n), (6, .cell ⟨.int .i64, s6⟩), (59, .cell ⟨.bool, s59⟩)], [.row 4 (.bool) r0]⟩
theorem kitKeptTruths_g1_eq (n : Nat) (x0 : List Bool) (x1 : Nat) (x2 : Nat) (x3 : List Bool) : kitKeptTruths_g1 n x0 x1 x2 x3 =
  forkB (((x2 : Nat) : Int) != ((x3.length : Nat) : Int))
  (some ((x0, ()), (false, ())))
  (if 0 ≤ (0 : Int) ∧ (0 : Int) ≤ IntKind.i64.wrap (((x3.length : Nat) : Int) + (12 : Int)) ∧ (IntKind.i64.wrap (((x3.length : Nat) : Int) + (12 : Int)) ≤ ((x2 : Nat) : Int) ∨ (((x1 : Nat) : Int) + IntKind.i64.wrap (((x3.length : Nat) : Int) + (12 : Int)) ≤ ((x0.length : Nat) : Int) ∧ (x1 = 0 ∨ 0 < x2))) then (kitKeptTruths_g1_L0 n x3 (x1 + 0) (((IntKind.i64.wrap (((x3.length : Nat) : Int) + (12 : Int))).toNat) - 0) (0 : Int) x0) else none) := by kernel_rfl
theorem kitKeptTruths_g1_L0_eq (n : Nat) (s1 : List Bool) (s5o : Nat) (s5n : Nat) (s6 : Int) (r0 : List Bool) : kitKeptTruths_g1_L0 (n + 1) s1 s5o s5n s6 r0 =
  forkB (decide (s6 < ((s5n : Nat) : Int)))
  (forkB (decide (s6 < ((s1.length : Nat) : Int)))
   (if 0 ≤ s6 ∧ s6 < ((s5n : Nat) : Int) then (if s5o + s6.toNat < r0.length then (if 0 ≤ s6 ∧ s6 < ((s1.length : Nat) : Int) then (forkB (!((r0.getD (s5o + s6.toNat) false) == (s1.getD s6.toNat false)))
    (kitKeptTruths_g1_J1 n s1 s5o s5n s6 true r0)
    (forkB (decide (s6 ≥ ((s1.length : Nat) : Int)))
     (if 0 ≤ s6 ∧ s6 < ((s5n : Nat) : Int) then (if s5o + s6.toNat < r0.length then (obind (kit_mark BIG (1 : Int) (IntKind.i64.wrap (s6 - ((s1.length : Nat) : Int)))) fun y1 =>
      kitKeptTruths_g1_J1 n s1 s5o s5n s6 (!((r0.getD (s5o + s6.toNat) false) == ((y1.tmod (3 : Int)) == (0 : Int)))) r0) else none) else none)
     (kitKeptTruths_g1_J1 n s1 s5o s5n s6 false r0))) else none) else none) else none)
   (forkB (decide (s6 ≥ ((s1.length : Nat) : Int)))
    (if 0 ≤ s6 ∧ s6 < ((s5n : Nat) : Int) then (if s5o + s6.toNat < r0.length then (obind (kit_mark BIG (1 : Int) (IntKind.i64.wrap (s6 - ((s1.length : Nat) : Int)))) fun y2 =>
     kitKeptTruths_g1_J1 n s1 s5o s5n s6 (!((r0.getD (s5o + s6.toNat) false) == ((y2.tmod (3 : Int)) == (0 : Int)))) r0) else none) else none)
    (kitKeptTruths_g1_J1 n s1 s5o s5n s6 false r0)))
  (some ((r0, ()), (true, ()))) := by kernel_rfl
theorem kitKeptTruths_g1_J1_eq (n : Nat) (s1 : List Bool) (s5o : Nat) (s5n : Nat) (s6 : Int) (s59 : Bool) (r0 : List Bool) : kitKeptTruths_g1_J1 (n + 1) s1 s5o s5n s6 s59 r0 =
  forkB s59
  (some ((r0, ()), (false, ())))
  (kitKeptTruths_g1_L0 n s1 s5o s5n (IntKind.i64.wrap (s6 + (1 : Int))) r0) := by kernel_rfl
noncomputable def kitKeptTruths_g1_sp : GSpec TT := ⟨[.slr 4 (.bool), .val (.list (.bool))], [.row 4 (.bool)], [.val (.bool)], fun x => kitKeptTruths_g1 BIG x.1.1 x.1.2.1 x.1.2.2 x.2.1⟩
theorem kitKeptTruths_g1_ok : GOk TT Try.prog 20 kitKeptTruths_g1_sp := gOk_of (C := kitKeptTruths_g1_C) (cuts := kitKeptTruths_g1_cuts) (by kernel_rfl) kitKeptTruths_g1_env Try.func20 (show Try.f20.body = some (bodyOf Try.f20) by kernel_rfl) (by kernel_rfl) (by kernel_rfl) (by kernel_rfl) fun x y h => ⟨BIG, h⟩
noncomputable def law13StackTells_C : Ctx TT := ⟨tyOf, [(7, law13_awake_sp.toCall), (8, kitLentTruths_g1_sp.toCall (noCall TT)), (9, stackSet_sp.toCall), (10, ref13Set_sp.toCall), (11, stackJoin_sp.toCall), (12, kitSameTruths_sp.toCall), (13, stackRead_sp.toCall), (14, ref13Read_sp.toCall), (15, stackWithin_sp.toCall), (16, ref13Within_sp.toCall), (17, ref13Join_sp.toCall), (18, stackNew_sp.toCall), (19, ref13New_sp.toCall), (20, kitKeptTruths_g1_sp.toCall (noCall TT))], 0, [], layOf⟩
theorem law13StackTells_env : EnvOk TT Try.prog law13StackTells_C.E := envG (fnCall_ok law13_awake_ok) (envG (gCall_ok kitLentTruths_g1_ok (noCall_ok 8)) (envG (fnCall_ok stackSet_ok) (envG (fnCall_ok ref13Set_ok) (envG (fnCall_ok stackJoin_ok) (envG (fnCall_ok kitSameTruths_ok) (envG (fnCall_ok stackRead_ok) (envG (fnCall_ok ref13Read_ok) (envG (fnCall_ok stackWithin_ok) (envG (fnCall_ok ref13Within_ok) (envG (fnCall_ok ref13Join_ok) (envG (fnCall_ok stackNew_ok) (envG (fnCall_ok ref13New_ok) (envG (gCall_ok kitKeptTruths_g1_ok (noCall_ok 20)) (envNil))))))))))))))
def law13StackTells_cuts : List (Pos × Cut) := [([false, true], ⟨[0, 1, 2, 3, 26], [], false, []⟩), ([false, true, true, true, true, true, true], ⟨[0, 1, 2, 3, 9, 10, 11, 13, 15, 91], [], false, []⟩), ([false, true, true, true, true, true, true, true], ⟨[0, 1, 2, 3, 9, 10, 11, 13, 15, 101], [], false, []⟩), ([false, true, false, true, true, true, true, true, true, true, true], ⟨[0, 1, 2, 3, 9, 10, 11, 13, 15, 16], [], false, []⟩), ([false, false, false, true, false, true, true, true, true, true, true, true, true], ⟨[0, 1, 2, 3, 9, 10, 11, 13, 15, 16, 111], [], false, []⟩)]
noncomputable def law13StackTells (n : Nat) (x0 : List Bool) (x1 : List Bool) (x2 : Int) (x3 : Int) : Option (Bool) := topF TT Try.prog law13StackTells_C law13StackTells_cuts Try.f3 (bodyOf Try.f3) ⟨[], []⟩ [.val (.list (.bool)), .val (.list (.bool)), .val (.int .i64), .val (.int .i64)] [.val (.bool)] n (x0, x1, x2, x3)
noncomputable def law13StackTells_J0 (n : Nat) (s0 : List Bool) (s1 : List Bool) (s2 : Int) (s3 : Int) (s26 : Bool) : Option (Bool) := cutF TT Try.prog law13StackTells_C law13StackTells_cuts Try.f3 (bodyOf Try.f3) ⟨[], []⟩ [.val (.list (.bool)), .val (.list (.bool)), .val (.int .i64), .val (.int .i64)] [.val (.bool)] n [false, true] ⟨[(0, .cell ⟨.list (.bool), s0⟩), (1, .cell ⟨.list (.bool), s1⟩), (2, .cell ⟨.int .i64, s2⟩), (3, .cell ⟨.int .i64, s3⟩), (26, .cell ⟨.bool, s26⟩)], []⟩
noncomputable def law13StackTells_J1 (n : Nat) (s0 : List Bool) (s1 : List Bool) (s2 : Int) (s3 : Int) (s9o : Nat) (s9n : Nat) (s10o : Nat) (s10n : Nat) (s91 : Bool) (r0 : List Bool) (r1 : List Bool) (r2 : List Bool) (r3 : List Bool) (r4 : List Bool) : Option (Bool) := cutF TT Try.prog law13StackTells_C law13StackTells_cuts Try.f3 (bodyOf Try.f3) ⟨[], []⟩ [.val (.list (.bool)), .val (.list (.bool)), .val (.int .i64), .val (.int .i64)] [.val (.bool)] n [false, true, true, true, true, true, true] ⟨[(0, .cell ⟨.list (.bool), s0⟩), (1, .cell ⟨.list (.bool), s1⟩), (2, .cell ⟨.int .i64, s2⟩), (3, .cell ⟨.int .i64, s3⟩), (9, .sl 0 1 s9o s9n), (10, .sl 1 1 s10o s10n), (11, .own 2), (13, .own 3), (15, .own 4), (91, .cell ⟨.bool, s91⟩)], [.row 4 (.bool) r0, .row 4 (.bool) r1, .row 47 (.bool) r2, .row 4 (.bool) r3, .row 47 (.bool) r4]⟩
noncomputable def law13StackTells_J2 (n : Nat) (s0 : List Bool) (s1 : List Bool) (s2 : Int) (s3 : Int) (s9o : Nat) (s9n : Nat) (s10o : Nat) (s10n : Nat) (s101 : Bool) (r0 : List Bool) (r1 : List Bool) (r2 : List Bool) (r3 : List Bool) (r4 : List Bool) : Option (Bool) := cutF TT Try.prog law13StackTells_C law13StackTells_cuts Try.f3 (bodyOf Try.f3) ⟨[], []⟩ [.val (.list (.bool)), .val (.list (.bool)), .val (.int .i64), .val (.int .i64)] [.val (.bool)] n [false, true, true, true, true, true, true, true] ⟨[(0, .cell ⟨.list (.bool), s0⟩), (1, .cell ⟨.list (.bool), s1⟩), (2, .cell ⟨.int .i64, s2⟩), (3, .cell ⟨.int .i64, s3⟩), (9, .sl 0 1 s9o s9n), (10, .sl 1 1 s10o s10n), (11, .own 2), (13, .own 3), (15, .own 4), (101, .cell ⟨.bool, s101⟩)], [.row 4 (.bool) r0, .row 4 (.bool) r1, .row 47 (.bool) r2, .row 4 (.bool) r3, .row 47 (.bool) r4]⟩
noncomputable def law13StackTells_L3 (n : Nat) (s0 : List Bool) (s1 : List Bool) (s2 : Int) (s3 : Int) (s9o : Nat) (s9n : Nat) (s10o : Nat) (s10n : Nat) (s16 : Int) (r0 : List Bool) (r1 : List Bool) (r2 : List Bool) (r3 : List Bool) (r4 : List Bool) : Option (Bool) := cutF TT Try.prog law13StackTells_C law13StackTells_cuts Try.f3 (bodyOf Try.f3) ⟨[], []⟩ [.val (.list (.bool)), .val (.list (.bool)), .val (.int .i64), .val (.int .i64)] [.val (.bool)] n [false, true, false, true, true, true, true, true, true, true, true] ⟨[(0, .cell ⟨.list (.bool), s0⟩), (1, .cell ⟨.list (.bool), s1⟩), (2, .cell ⟨.int .i64, s2⟩), (3, .cell ⟨.int .i64, s3⟩), (9, .sl 0 1 s9o s9n), (10, .sl 1 1 s10o s10n), (11, .own 2), (13, .own 3), (15, .own 4), (16, .cell ⟨.int .i64, s16⟩)], [.row 4 (.bool) r0, .row 4 (.bool) r1, .row 47 (.bool) r2, .row 4 (.bool) r3, .row 47 (.bool) r4]⟩
noncomputable def law13StackTells_J4 (n : Nat) (s0 : List Bool) (s1 : List Bool) (s2 : Int) (s3 : Int) (s9o : Nat) (s9n : Nat) (s10o : Nat) (s10n : Nat) (s16 : Int) (s111 : Bool) (r0 : List Bool) (r1 : List Bool) (r2 : List Bool) (r3 : List Bool) (r4 : List Bool) : Option (Bool) := cutF TT Try.prog law13StackTells_C law13StackTells_cuts Try.f3 (bodyOf Try.f3) ⟨[], []⟩ [.val (.list (.bool)), .val (.list (.bool)), .val (.int .i64), .val (.int .i64)] [.val (.bool)] n [false, false, false, true, false, true, true, true, true, true, true, true, true] ⟨[(0, .cell ⟨.list (.bool), s0⟩), (1, .cell ⟨.list (.bool), s1⟩), (2, .cell ⟨.int .i64, s2⟩), (3, .cell ⟨.int .i64, s3⟩), (9, .sl 0 1 s9o s9n), (10, .sl 1 1 s10o s10n), (11, .own 2), (13, .own 3), (15, .own 4), (16, .cell ⟨.int .i64, s16⟩), (111, .cell ⟨.bool, s111⟩)], [.row 4 (.bool) r0, .row 4 (.bool) r1, .row 47 (.bool) r2, .row 4 (.bool) r3, .row 47 (.bool) r4]⟩
theorem law13StackTells_eq (n : Nat) (x0 : List Bool) (x1 : List Bool) (x2 : Int) (x3 : Int) : law13StackTells n x0 x1 x2 x3 =
  forkB (decide (((x0.length : Nat) : Int) > (3000 : Int)))
  (law13StackTells_J0 n x0 x1 x2 x3 true)
  (law13StackTells_J0 n x0 x1 x2 x3 (decide (((x1.length : Nat) : Int) > (3000 : Int)))) := by kernel_rfl
theorem law13StackTells_J0_eq (n : Nat) (s0 : List Bool) (s1 : List Bool) (s2 : Int) (s3 : Int) (s26 : Bool) : law13StackTells_J0 (n + 1) s0 s1 s2 s3 s26 =
  forkB s26
  (obind (law13_awake BIG ) fun y1 =>
   some y1)
  (obind (kitLentTruths_g1 BIG s0) fun y2 =>
   obind (kitLentTruths_g1 BIG s1) fun y3 =>
   if y2.2.1.2.1 + y2.2.1.2.2 ≤ y2.2.1.1.length then (obind (stackSet BIG (List.take y2.2.1.2.2 (List.drop y2.2.1.2.1 y2.2.1.1)) s2 s3) fun y4 =>
   obind (ref13Set BIG s0 s2 s3) fun y5 =>
   if y2.2.1.2.1 + y2.2.1.2.2 ≤ y2.2.1.1.length then (if y3.2.1.2.1 + y3.2.1.2.2 ≤ y3.2.1.1.length then (obind (stackJoin BIG (List.take y2.2.1.2.2 (List.drop y2.2.1.2.1 y2.2.1.1)) (List.take y3.2.1.2.2 (List.drop y3.2.1.2.1 y3.2.1.1))) fun y6 =>
   forkB (y4.2 != y5.2)
   (law13StackTells_J1 n s0 s1 s2 s3 y2.2.1.2.1 y2.2.1.2.2 y3.2.1.2.1 y3.2.1.2.2 true y2.2.1.1 y3.2.1.1 y4.1 y5.1 y6)
   (obind (kitSameTruths BIG y4.1 y5.1) fun y7 =>
    forkB (!y7)
    (law13StackTells_J1 n s0 s1 s2 s3 y2.2.1.2.1 y2.2.1.2.2 y3.2.1.2.1 y3.2.1.2.2 true y2.2.1.1 y3.2.1.1 y4.1 y5.1 y6)
    (if y2.2.1.2.1 + y2.2.1.2.2 ≤ y2.2.1.1.length then (obind (stackRead BIG (List.take y2.2.1.2.2 (List.drop y2.2.1.2.1 y2.2.1.1)) s2 s3) fun y8 =>
     obind (ref13Read BIG s0 s2 s3) fun y9 =>
     forkB (y8 != y9)
     (law13StackTells_J1 n s0 s1 s2 s3 y2.2.1.2.1 y2.2.1.2.2 y3.2.1.2.1 y3.2.1.2.2 true y2.2.1.1 y3.2.1.1 y4.1 y5.1 y6)
     (if y2.2.1.2.1 + y2.2.1.2.2 ≤ y2.2.1.1.length then (if y3.2.1.2.1 + y3.2.1.2.2 ≤ y3.2.1.1.length then (obind (stackWithin BIG (List.take y2.2.1.2.2 (List.drop y2.2.1.2.1 y2.2.1.1)) (List.take y3.2.1.2.2 (List.drop y3.2.1.2.1 y3.2.1.1))) fun y10 =>
      obind (ref13Within BIG s0 s1) fun y11 =>
      forkB (!(y10 == y11))
      (law13StackTells_J1 n s0 s1 s2 s3 y2.2.1.2.1 y2.2.1.2.2 y3.2.1.2.1 y3.2.1.2.2 true y2.2.1.1 y3.2.1.1 y4.1 y5.1 y6)
      (obind (ref13Join BIG s0 s1) fun y12 =>
       obind (kitSameTruths BIG y6 y12) fun y13 =>
       forkB (!y13)
       (law13StackTells_J1 n s0 s1 s2 s3 y2.2.1.2.1 y2.2.1.2.2 y3.2.1.2.1 y3.2.1.2.2 true y2.2.1.1 y3.2.1.1 y4.1 y5.1 y6)
       (obind (stackNew BIG ) fun y14 =>
        obind (ref13New BIG ) fun y15 =>
        obind (kitSameTruths BIG y14 y15) fun y16 =>
        law13StackTells_J1 n s0 s1 s2 s3 y2.2.1.2.1 y2.2.1.2.2 y3.2.1.2.1 y3.2.1.2.2 (!y16) y2.2.1.1 y3.2.1.1 y4.1 y5.1 y6))) else none) else none)) else none))) else none) else none) else none) := by kernel_rfl
theorem law13StackTells_J1_eq (n : Nat) (s0 : List Bool) (s1 : List Bool) (s2 : Int) (s3 : Int) (s9o : Nat) (s9n : Nat) (s10o : Nat) (s10n : Nat) (s91 : Bool) (r0 : List Bool) (r1 : List Bool) (r2 : List Bool) (r3 : List Bool) (r4 : List Bool) : law13StackTells_J1 (n + 1) s0 s1 s2 s3 s9o s9n s10o s10n s91 r0 r1 r2 r3 r4 =
  forkB s91
  (some false)
  (obind (kitKeptTruths_g1 BIG r0 s9o s9n s0) fun y1 =>
   forkB (!y1.2.1)
   (law13StackTells_J2 n s0 s1 s2 s3 s9o s9n s10o s10n true y1.1.1 r1 r2 r3 r4)
   (obind (kitKeptTruths_g1 BIG r1 s10o s10n s1) fun y2 =>
    law13StackTells_J2 n s0 s1 s2 s3 s9o s9n s10o s10n (!y2.2.1) y1.1.1 y2.1.1 r2 r3 r4)) := by kernel_rfl
theorem law13StackTells_J2_eq (n : Nat) (s0 : List Bool) (s1 : List Bool) (s2 : Int) (s3 : Int) (s9o : Nat) (s9n : Nat) (s10o : Nat) (s10n : Nat) (s101 : Bool) (r0 : List Bool) (r1 : List Bool) (r2 : List Bool) (r3 : List Bool) (r4 : List Bool) : law13StackTells_J2 (n + 1) s0 s1 s2 s3 s9o s9n s10o s10n s101 r0 r1 r2 r3 r4 =
  forkB s101
  (some false)
  (law13StackTells_L3 n s0 s1 s2 s3 s9o s9n s10o s10n (0 : Int) r0 r1 r2 r3 r4) := by kernel_rfl
theorem law13StackTells_L3_eq (n : Nat) (s0 : List Bool) (s1 : List Bool) (s2 : Int) (s3 : Int) (s9o : Nat) (s9n : Nat) (s10o : Nat) (s10n : Nat) (s16 : Int) (r0 : List Bool) (r1 : List Bool) (r2 : List Bool) (r3 : List Bool) (r4 : List Bool) : law13StackTells_L3 (n + 1) s0 s1 s2 s3 s9o s9n s10o s10n s16 r0 r1 r2 r3 r4 =
  forkB (decide (s16 < ((r2.length : Nat) : Int)))
  (law13StackTells_J4 n s0 s1 s2 s3 s9o s9n s10o s10n s16 (decide (s16 < ((r4.length : Nat) : Int))) r0 r1 r2 r3 r4)
  (law13StackTells_J4 n s0 s1 s2 s3 s9o s9n s10o s10n s16 false r0 r1 r2 r3 r4) := by kernel_rfl
theorem law13StackTells_J4_eq (n : Nat) (s0 : List Bool) (s1 : List Bool) (s2 : Int) (s3 : Int) (s9o : Nat) (s9n : Nat) (s10o : Nat) (s10n : Nat) (s16 : Int) (s111 : Bool) (r0 : List Bool) (r1 : List Bool) (r2 : List Bool) (r3 : List Bool) (r4 : List Bool) : law13StackTells_J4 (n + 1) s0 s1 s2 s3 s9o s9n s10o s10n s16 s111 r0 r1 r2 r3 r4 =
  forkB s111
  (if 0 ≤ s16 ∧ s16 < ((r2.length : Nat) : Int) then (if 0 ≤ s16 ∧ s16 < ((r2.length : Nat) : Int) then (if 0 ≤ s16 ∧ s16 < ((r4.length : Nat) : Int) then (if 0 ≤ s16 ∧ s16 < ((r4.length : Nat) : Int) then (law13StackTells_L3 n s0 s1 s2 s3 s9o s9n s10o s10n (IntKind.i64.wrap (s16 + (1 : Int))) r0 r1 (r2.set s16.toNat (!(r2.getD s16.toNat false))) r3 (r4.set s16.toNat (!(r4.getD s16.toNat false)))) else none) else none) else none) else none)
  (if s9o + s9n ≤ r0.length then (obind (stackSet BIG (List.take s9n (List.drop s9o r0)) s2 s3) fun y1 =>
   obind (kitKeptTruths_g1 BIG r0 s9o s9n s0) fun y2 =>
   forkB y2.2.1
   (obind (kitKeptTruths_g1 BIG r1 s10o s10n s1) fun y3 =>
    forkB y3.2.1
    (obind (kitSameTruths BIG y1.1 r3) fun y4 =>
     forkB y4
     (if s9o + s9n ≤ y2.1.1.length then (if s10o + s10n ≤ y3.1.1.length then (obind (stackJoin BIG (List.take s9n (List.drop s9o y2.1.1)) (List.take s10n (List.drop s10o y3.1.1))) fun y5 =>
      obind (ref13Join BIG s0 s1) fun y6 =>
      obind (kitSameTruths BIG y5 y6) fun y7 =>
      forkB y7
      (obind (law13_awake BIG ) fun y8 =>
       some y8)
      (some false)) else none) else none)
     (some false))
    (some false))
   (some false)) else none) := by kernel_rfl
noncomputable def law13StackTells_sp : FnSpec TT := ⟨[.val (.list (.bool)), .val (.list (.bool)), .val (.int .i64), .val (.int .i64)], [.val (.bool)], fun x => law13StackTells BIG x.1 x.2.1 x.2.2.1 x.2.2.2⟩
theorem law13StackTells_ok : FnOk TT Try.prog 3 law13StackTells_sp := fnOk_of (C := law13StackTells_C) (by kernel_rfl) law13StackTells_env Try.func3 (show Try.f3.body = some (bodyOf Try.f3) by kernel_rfl) (by kernel_rfl) (by kernel_rfl) (cuts := law13StackTells_cuts) fun x y h => ⟨BIG, h⟩
noncomputable def law13StackNumbers_C : Ctx TT := ⟨tyOf, [(18, stackNew_sp.toCall), (15, stackWithin_sp.toCall), (11, stackJoin_sp.toCall), (12, kitSameTruths_sp.toCall), (22, law13_reads_sp.toCall), (3, law13StackTells_sp.toCall), (7, law13_awake_sp.toCall), (13, stackRead_sp.toCall), (14, ref13Read_sp.toCall), (9, stackSet_sp.toCall), (19, ref13New_sp.toCall), (10, ref13Set_sp.toCall)], 0, [(19, 1), (20, 1)], layOf⟩
theorem law13StackNumbers_env : EnvOk TT Try.prog law13StackNumbers_C.E := envG (fnCall_ok stackNew_ok) (envG (fnCall_ok stackWithin_ok) (envG (fnCall_ok stackJoin_ok) (envG (fnCall_ok kitSameTruths_ok) (envG (fnCall_ok law13_reads_ok) (envG (fnCall_ok law13StackTells_ok) (envG (fnCall_ok law13_awake_ok) (envG (fnCall_ok stackRead_ok) (envG (fnCall_ok ref13Read_ok) (envG (fnCall_ok stackSet_ok) (envG (fnCall_ok ref13New_ok) (envG (fnCall_ok ref13Set_ok) (envNil))))))))))))
def law13StackNumbers_cuts : List (Pos × Cut) := [([false, true, false, true, true, true, true], ⟨[1, 2, 3, 4], [], false, []⟩), ([false, true, false, true, true, true, true, true], ⟨[1, 2, 3, 5], [], false, []⟩), ([false, true, false, false, true, false, false, true, false, true, true, true, true, true], ⟨[1, 2, 3, 5, 6], [], false, []⟩), ([false, true, false, false, false, true, false, false, true, false, false, true, false, false, true, false, true, true, true, true, true], ⟨[1, 2, 3, 5, 6, 7], [], false, []⟩), ([true, true, true, false, false, true, false, false, true, false, false, true, false, false, true, false, true, true, true, true, true], ⟨[1, 2, 3, 5, 6, 101], [], false, []⟩), ([false, true, false, true, true, true, true, true, true], ⟨[3, 12], [], false, []⟩), ([true, true, false, false, true, false, false, true, false, true, true, true, true, true, true], ⟨[3, 12, 147], [], false, []⟩)]
noncomputable def law13StackNumbers (n : Nat)  : Option (Bool) := topF TT Try.prog law13StackNumbers_C law13StackNumbers_cuts Try.f5 (bodyOf Try.f5) ⟨[], []⟩ [] [.val (.bool)] n ()
noncomputable def law13StackNumbers_L0 (n : Nat) (s4 : Int) (r0 : List Int) (r1 : List Int) (r2 : List Bool) : Option (Bool) := cutF TT Try.prog law13StackNumbers_C law13StackNumbers_cuts Try.f5 (bodyOf Try.f5) ⟨[], []⟩ [] [.val (.bool)] n [false, true, false, true, true, true, true] ⟨[(1, .own 0), (2, .own 1), (3, .own 2), (4, .cell ⟨.int .i64, s4⟩)], [.row 2 (.int .i64) r0, .row 3 (.int .i64) r1, .row 4 (.bool) r2]⟩
noncomputable def law13StackNumbers_L1 (n : Nat) (s5 : Int) (r0 : List Int) (r1 : List Int) (r2 : List Bool) : Option (Bool) := cutF TT Try.prog law13StackNumbers_C law13StackNumbers_cuts Try.f5 (bodyOf Try.f5) ⟨[], []⟩ [] [.val (.bool)] n [false, true, false, true, true, true, true, true] ⟨[(1, .own 0), (2, .own 1), (3, .own 2), (5, .cell ⟨.int .i64, s5⟩)], [.row 2 (.int .i64) r0, .row 3 (.int .i64) r1, .row 4 (.bool) r2]⟩
noncomputable def law13StackNumbers_L2 (n : Nat) (s5 : Int) (s6 : Int) (r0 : List Int) (r1 : List Int) (r2 : List Bool) : Option (Bool) := cutF TT Try.prog law13StackNumbers_C law13StackNumbers_cuts Try.f5 (bodyOf Try.f5) ⟨[], []⟩ [] [.val (.bool)] n [false, true, false, false, true, false, false, true, false, true, true, true, true, true] ⟨[(1, .own 0), (2, .own 1), (3, .own 2), (5, .cell ⟨.int .i64, s5⟩), (6, .cell ⟨.int .i64, s6⟩)], [.row 2 (.int .i64) r0, .row 3 (.int .i64) r1, .row 4 (.bool) r2]⟩
noncomputable def law13StackNumbers_L5 (n : Nat) (s12 : Int) (r0 : List Bool) : Option (Bool) := cutF TT Try.prog law13StackNumbers_C law13StackNumbers_cuts Try.f5 (bodyOf Try.f5) ⟨[], []⟩ [] [.val (.bool)] n [false, true, false, true, true, true, true, true, true] ⟨[(3, .own 0), (12, .cell ⟨.int .i64, s12⟩)], [.row 4 (.bool) r0]⟩
noncomputable def law13StackNumbers_L3 (n : Nat) (s5 : Int) (s6 : Int) (s7 : Int) (r0 : List Int) (r1 : List Int) (r2 : List Bool) : Option (Bool) := cutF TT Try.prog law13StackNumbers_C law13StackNumbers_cuts Try.f5 (bodyOf Try.f5) ⟨[], []⟩ [] [.val (.bool)] n [false, true, false, false, false, true, false, false, true, false, false, true, false, false, true, false, true, true, true, true, true] ⟨[(1, .own 0), (2, .own 1), (3, .own 2), (5, .cell ⟨.int .i64, s5⟩), (6, .cell ⟨.int .i64, s6⟩), (7, .cell ⟨.int .i64, s7⟩)], [.row 2 (.int .i64) r0, .row 3 (.int .i64) r1, .row 4 (.bool) r2]⟩
noncomputable def law13StackNumbers_J6 (n : Nat) (s12 : Int) (s147 : Bool) (r0 : List Bool) : Option (Bool) := cutF TT Try.prog law13StackNumbers_C law13StackNumbers_cuts Try.f5 (bodyOf Try.f5) ⟨[], []⟩ [] [.val (.bool)] n [true, true, false, false, true, false, false, true, false, true, true, true, true, true, true] ⟨[(3, .own 0), (12, .cell ⟨.int .i64, s12⟩), (147, .cell ⟨.bool, s147⟩)], [.row 4 (.bool) r0]⟩
noncomputable def law13StackNumbers_J4 (n : Nat) (s5 : Int) (s6 : Int) (s101 : Bool) (r0 : List Int) (r1 : List Int) (r2 : List Bool) : Option (Bool) := cutF TT Try.prog law13StackNumbers_C law13StackNumbers_cuts Try.f5 (bodyOf Try.f5) ⟨[], []⟩ [] [.val (.bool)] n [true, true, true, false, false, true, false, false, true, false, false, true, false, false, true, false, true, true, true, true, true] ⟨[(1, .own 0), (2, .own 1), (3, .own 2), (5, .cell ⟨.int .i64, s5⟩), (6, .cell ⟨.int .i64, s6⟩), (101, .cell ⟨.bool, s101⟩)], [.row 2 (.int .i64) r0, .row 3 (.int .i64) r1, .row 4 (.bool) r2]⟩
theorem law13StackNumbers_eq (n : Nat)  : law13StackNumbers n  =
  if 0 ≤ (513 : Int) ∧ (513 : Int) ≤ (513 : Int) ∧ 1 * 513 ≤ 281474976710656 ∧ (513 : Int) ≤ 9223372036854775807 then (law13StackNumbers_L0 n (0 : Int) ([(-9223372036854775808 : Int), (-9223372036854775296 : Int), (-520 : Int), (-514 : Int), (-513 : Int), (-512 : Int), (-511 : Int), (-505 : Int), (-504 : Int), (-9 : Int), (-8 : Int), (-7 : Int), (-4 : Int), (-3 : Int), (-2 : Int), (-1 : Int), (0 : Int), (1 : Int), (9223372036854775807 : Int)] : List Int) ([(-9223372036854775808 : Int), (-8 : Int), (-1 : Int), (0 : Int), (1 : Int), (2 : Int), (3 : Int), (4 : Int), (5 : Int), (7 : Int), (8 : Int), (9 : Int), (16 : Int), (9223372036854775807 : Int)] : List Int) (List.replicate 513 false)) else none := by kernel_rfl
theorem law13StackNumbers_L0_eq (n : Nat) (s4 : Int) (r0 : List Int) (r1 : List Int) (r2 : List Bool) : law13StackNumbers_L0 (n + 1) s4 r0 r1 r2 =
  forkB (decide (s4 < ((r2.length : Nat) : Int)))
  (if 0 ≤ s4 ∧ s4 < ((r2.length : Nat) : Int) then (law13StackNumbers_L0 n (IntKind.i64.wrap (s4 + (1 : Int))) r0 r1 (r2.set s4.toNat true)) else none)
  (law13StackNumbers_L1 n (0 : Int) r0 r1 r2) := by kernel_rfl
theorem law13StackNumbers_L1_eq (n : Nat) (s5 : Int) (r0 : List Int) (r1 : List Int) (r2 : List Bool) : law13StackNumbers_L1 (n + 1) s5 r0 r1 r2 =
  forkB (decide (s5 < ((r0.length : Nat) : Int)))
  (law13StackNumbers_L2 n s5 (0 : Int) r0 r1 r2)
  (law13StackNumbers_L5 n (0 : Int) r2) := by kernel_rfl
theorem law13StackNumbers_L2_eq (n : Nat) (s5 : Int) (s6 : Int) (r0 : List Int) (r1 : List Int) (r2 : List Bool) : law13StackNumbers_L2 (n + 1) s5 s6 r0 r1 r2 =
  forkB (decide (s6 < ((r1.length : Nat) : Int)))
  (law13StackNumbers_L3 n s5 s6 (511 : Int) r0 r1 r2)
  (law13StackNumbers_L1 n (IntKind.i64.wrap (s5 + (1 : Int))) r0 r1 r2) := by kernel_rfl
theorem law13StackNumbers_L5_eq (n : Nat) (s12 : Int) (r0 : List Bool) : law13StackNumbers_L5 (n + 1) s12 r0 =
  forkB (decide (s12 < (512 : Int)))
  (if 0 ≤ (512 : Int) ∧ (512 : Int) ≤ (512 : Int) ∧ 1 * 512 ≤ 281474976710656 ∧ (512 : Int) ≤ 9223372036854775807 then (if 0 ≤ s12 ∧ s12 < (((List.replicate 512 false).length : Nat) : Int) then (obind (stackNew BIG ) fun y1 =>
   obind (stackWithin BIG ((List.replicate 512 false).set s12.toNat true) y1) fun y2 =>
   forkB (!y2)
   (law13StackNumbers_J6 n s12 true r0)
   (obind (stackNew BIG ) fun y3 =>
    obind (stackWithin BIG y3 ((List.replicate 512 false).set s12.toNat true)) fun y4 =>
    forkB y4
    (law13StackNumbers_J6 n s12 true r0)
    (if 0 ≤ (0 : Int) ∧ (0 : Int) ≤ (512 : Int) ∧ (512 : Int) ≤ ((r0.length : Nat) : Int) then (if 512 ≤ r0.length then (obind (stackWithin BIG (List.take 512 (List.drop 0 r0)) ((List.replicate 512 false).set s12.toNat true)) fun y5 =>
     forkB (!y5)
     (law13StackNumbers_J6 n s12 true r0)
     (if 0 ≤ (0 : Int) ∧ (0 : Int) ≤ (512 : Int) ∧ (512 : Int) ≤ ((r0.length : Nat) : Int) then (if 512 ≤ r0.length then (obind (stackWithin BIG ((List.replicate 512 false).set s12.toNat true) (List.take 512 (List.drop 0 r0))) fun y6 =>
      forkB y6
      (law13StackNumbers_J6 n s12 true r0)
      (if 0 ≤ (0 : Int) ∧ (0 : Int) ≤ (512 : Int) ∧ (512 : Int) ≤ ((r0.length : Nat) : Int) then (if 512 ≤ r0.length then (obind (stackJoin BIG ((List.replicate 512 false).set s12.toNat true) (List.take 512 (List.drop 0 r0))) fun y7 =>
       obind (kitSameTruths BIG y7 ((List.replicate 512 false).set s12.toNat true)) fun y8 =>
       forkB (!y8)
       (law13StackNumbers_J6 n s12 true r0)
       (obind (law13_reads BIG ((List.replicate 512 false).set s12.toNat true) (IntKind.i64.wrap (s12 - (512 : Int))) (1 : Int) (0 : Int)) fun y9 =>
        law13StackNumbers_J6 n s12 (!y9) r0)) else none) else none)) else none) else none)) else none) else none))) else none) else none)
  (if 0 ≤ (0 : Int) ∧ (0 : Int) ≤ (512 : Int) ∧ (512 : Int) ≤ ((r0.length : Nat) : Int) then (if 512 ≤ r0.length then (obind (law13StackTells BIG r0 (List.take 512 (List.drop 0 r0)) (-8 : Int) (8 : Int)) fun y10 =>
   forkB y10
   (if 0 ≤ (0 : Int) ∧ (0 : Int) ≤ (511 : Int) ∧ (511 : Int) ≤ ((r0.length : Nat) : Int) then (if 511 ≤ r0.length then (obind (law13StackTells BIG (List.take 511 (List.drop 0 r0)) ([] : List Bool) (-1 : Int) (1 : Int)) fun y11 =>
    forkB y11
    (obind (stackJoin BIG r0 r0) fun y12 =>
     forkB (((y12.length : Nat) : Int) == (0 : Int))
     (obind (stackWithin BIG r0 r0) fun y13 =>
      forkB (!y13)
      (obind (law13_awake BIG ) fun y14 =>
       some y14)
      (some false))
     (some false))
    (some false)) else none) else none)
   (some false)) else none) else none) := by kernel_rfl
theorem law13StackNumbers_L3_eq (n : Nat) (s5 : Int) (s6 : Int) (s7 : Int) (r0 : List Int) (r1 : List Int) (r2 : List Bool) : law13StackNumbers_L3 (n + 1) s5 s6 s7 r0 r1 r2 =
  forkB (decide (s7 < (514 : Int)))
  (if 0 ≤ (0 : Int) ∧ (0 : Int) ≤ s7 ∧ s7 ≤ ((r2.length : Nat) : Int) then (if 0 ≤ s5 ∧ s5 < ((r0.length : Nat) : Int) then (if 0 ≤ s6 ∧ s6 < ((r1.length : Nat) : Int) then (if 0 + (s7.toNat - 0) ≤ r2.length then (obind (stackRead BIG (List.take (s7.toNat - 0) (List.drop 0 r2)) (r0.getD s5.toNat (0 : Int)) (r1.getD s6.toNat (0 : Int))) fun y1 =>
   if 0 ≤ (0 : Int) ∧ (0 : Int) ≤ s7 ∧ s7 ≤ ((r2.length : Nat) : Int) then (if 0 ≤ s5 ∧ s5 < ((r0.length : Nat) : Int) then (if 0 ≤ s6 ∧ s6 < ((r1.length : Nat) : Int) then (if 0 + (s7.toNat - 0) ≤ r2.length then (obind (ref13Read BIG (List.take (s7.toNat - 0) (List.drop 0 r2)) (r0.getD s5.toNat (0 : Int)) (r1.getD s6.toNat (0 : Int))) fun y2 =>
   forkB (y1 != y2)
   (some false)
   (law13StackNumbers_L3 n s5 s6 (IntKind.i64.wrap (s7 + (1 : Int))) r0 r1 r2)) else none) else none) else none) else none) else none) else none) else none) else none)
  (obind (stackNew BIG ) fun y3 =>
   if 0 ≤ s5 ∧ s5 < ((r0.length : Nat) : Int) then (if 0 ≤ s6 ∧ s6 < ((r1.length : Nat) : Int) then (obind (stackSet BIG y3 (r0.getD s5.toNat (0 : Int)) (r1.getD s6.toNat (0 : Int))) fun y4 =>
   obind (ref13New BIG ) fun y5 =>
   if 0 ≤ s5 ∧ s5 < ((r0.length : Nat) : Int) then (if 0 ≤ s6 ∧ s6 < ((r1.length : Nat) : Int) then (obind (ref13Set BIG y5 (r0.getD s5.toNat (0 : Int)) (r1.getD s6.toNat (0 : Int))) fun y6 =>
   forkB (y4.2 != y6.2)
   (law13StackNumbers_J4 n s5 s6 true r0 r1 r2)
   (obind (kitSameTruths BIG y4.1 y6.1) fun y7 =>
    law13StackNumbers_J4 n s5 s6 (!y7) r0 r1 r2)) else none) else none) else none) else none) := by kernel_rfl
theorem law13StackNumbers_J6_eq (n : Nat) (s12 : Int) (s147 : Bool) (r0 : List Bool) : law13StackNumbers_J6 (n + 1) s12 s147 r0 =
  forkB s147
  (some false)
  (law13StackNumbers_L5 n (IntKind.i64.wrap (s12 + (1 : Int))) r0) := by kernel_rfl
theorem law13StackNumbers_J4_eq (n : Nat) (s5 : Int) (s6 : Int) (s101 : Bool) (r0 : List Int) (r1 : List Int) (r2 : List Bool) : law13StackNumbers_J4 (n + 1) s5 s6 s101 r0 r1 r2 =
  forkB s101
  (some false)
  (law13StackNumbers_L2 n s5 (IntKind.i64.wrap (s6 + (1 : Int))) r0 r1 r2) := by kernel_rfl
noncomputable def law13StackNumbers_sp : FnSpec TT := ⟨[], [.val (.bool)], fun _ => law13StackNumbers BIG ⟩
theorem law13StackNumbers_ok : FnOk TT Try.prog 5 law13StackNumbers_sp := fnOk_of (C := law13StackNumbers_C) (by kernel_rfl) law13StackNumbers_env Try.func5 (show Try.f5.body = some (bodyOf Try.f5) by kernel_rfl) (by kernel_rfl) (by kernel_rfl) (cuts := law13StackNumbers_cuts) fun x y h => ⟨BIG, h⟩
end Go.X
