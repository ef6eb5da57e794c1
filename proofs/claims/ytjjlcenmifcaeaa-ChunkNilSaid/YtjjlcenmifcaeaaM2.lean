/- Texts put together. -/
import Derived.Test.YtjjlcenmifcaeaaIh
/- Boards. -/
namespace Go.X
open Go.RowKit Go.V Go.Proofs
noncomputable def chunkNew_g1_C : Ctx TT := ⟨tyOf, [], 0, [], layOf, drOf, pmOf⟩
theorem chunkNew_g1_env : EnvOk TT Try.prog chunkNew_g1_C.E := envNil
def chunkNew_g1_cuts : List (Pos × Cut) := []
noncomputable def chunkNew_g1 (n : Nat)  : Option ((Unit) × (((List (Int × Upload)) × Unit) × Unit)) := topG TT Try.prog chunkNew_g1_C chunkNew_g1_cuts Try.f11 (bodyOf Try.f11) ⟨[], [], [], [], []⟩ [] [] [.ptr 0 28 [.pm .i64 49 0]] n ()
theorem chunkNew_g1_eq (n : Nat)  : chunkNew_g1 n  =
  some ((), ((([] : List (Int × Upload)), ()), ())) := by kernel_rfl
noncomputable def chunkNew_g1_sp : GSpec TT := ⟨[], [], [.ptr 0 28 [.pm .i64 49 0]], fun _ => chunkNew_g1 BIG ⟩
theorem chunkNew_g1_ok : GOk TT Try.prog 11 chunkNew_g1_sp := gOk_of (C := chunkNew_g1_C) (cuts := chunkNew_g1_cuts) (by kernel_rfl) chunkNew_g1_env Try.func11 (show Try.f11.body = some (bodyOf Try.f11) by kernel_rfl) (by kernel_rfl) (by kernel_rfl) (by kernel_rfl) fun x y h => ⟨BIG, h⟩
noncomputable def chunkBoard_known_g1_C : Ctx TT := ⟨tyOf, [], 2, [], layOf, drOf, pmOf⟩
theorem chunkBoard_known_g1_env : EnvOk TT Try.prog chunkBoard_known_g1_C.E := envNil
def chunkBoard_known_g1_cuts : List (Pos × Cut) := []
noncomputable def chunkBoard_known_g1 (n : Nat) (x0 : List (Int × Upload)) : Option (((Unit × Unit) × (List (Int × Upload)) × Unit) × (Bool × Unit)) := topG TT Try.prog chunkBoard_known_g1_C chunkBoard_known_g1_cuts Try.f13 (bodyOf Try.f13) ⟨[], [], [], [], []⟩ [.ptr 0 28 [.pm .i64 49 0]] [.blk 28 [.mpo 1], .pm .i64 49 0] [.val (.bool)] n ((x0, ()), ())
theorem chunkBoard_known_g1_eq (n : Nat) (x0 : List (Int × Upload)) : chunkBoard_known_g1 n x0 =
  some ((((), ()), x0, ()), (true, ())) := by kernel_rfl
noncomputable def chunkBoard_known_g1_sp : GSpec TT := ⟨[.ptr 0 28 [.pm .i64 49 0]], [.blk 28 [.mpo 1], .pm .i64 49 0], [.val (.bool)], fun x => chunkBoard_known_g1 BIG x.1.1⟩
theorem chunkBoard_known_g1_ok : GOk TT Try.prog 13 chunkBoard_known_g1_sp := gOk_of (C := chunkBoard_known_g1_C) (cuts := chunkBoard_known_g1_cuts) (by kernel_rfl) chunkBoard_known_g1_env Try.func13 (show Try.f13.body = some (bodyOf Try.f13) by kernel_rfl) (by kernel_rfl) (by kernel_rfl) (by kernel_rfl) fun x y h => ⟨BIG, h⟩
noncomputable def chunk_right_C : Ctx TT := ⟨tyOf, [], 0, [], layOf, drOf, pmOf⟩
theorem chunk_right_env : EnvOk TT Try.prog chunk_right_C.E := envNil
def chunk_right_cuts : List (Pos × Cut) := [([false, false, true, true], ⟨[1, 2, 9, 12], [], false, [], 0, false⟩), ([true, true, false, false, true, true], ⟨[1, 2, 9, 27], [], false, [], 0, false⟩)]
noncomputable def chunk_right (n : Nat) (x0 : Int) (x1 : Int) (x2 : Int) (x3 : List Int) : Option (Bool) := topF TT Try.prog chunk_right_C chunk_right_cuts Try.f14 (bodyOf Try.f14) ⟨[], []⟩ [.val (.int .i64), .val (.int .i64), .val (.int .i64), .val (.list (.int .u8))] [.val (.bool)] n (x0, x1, x2, x3)
noncomputable def chunk_right_J0 (n : Nat) (s1 : Int) (s2 : Int) (s9 : Int) (s12 : Bool) : Option (Bool) := cutF TT Try.prog chunk_right_C chunk_right_cuts Try.f14 (bodyOf Try.f14) ⟨[], []⟩ [.val (.int .i64), .val (.int .i64), .val (.int .i64), .val (.list (.int .u8))] [.val (.bool)] n [false, false, true, true] ⟨[(1, .cell ⟨.int .i64, s1⟩), (2, .cell ⟨.int .i64, s2⟩), (9, .cell ⟨.int .i64, s9⟩), (12, .cell ⟨.bool, s12⟩)], []⟩
noncomputable def chunk_right_J1 (n : Nat) (s1 : Int) (s2 : Int) (s9 : Int) (s27 : Bool) : Option (Bool) := cutF TT Try.prog chunk_right_C chunk_right_cuts Try.f14 (bodyOf Try.f14) ⟨[], []⟩ [.val (.int .i64), .val (.int .i64), .val (.int .i64), .val (.list (.int .u8))] [.val (.bool)] n [true, true, false, false, true, true] ⟨[(1, .cell ⟨.int .i64, s1⟩), (2, .cell ⟨.int .i64, s2⟩), (9, .cell ⟨.int .i64, s9⟩), (27, .cell ⟨.bool, s27⟩)], []⟩
theorem chunk_right_eq (n : Nat) (x0 : Int) (x1 : Int) (x2 : Int) (x3 : List Int) : chunk_right n x0 x1 x2 x3 =
  forkB (decide (x0 < (1 : Int)))
  (chunk_right_J0 n x1 x2 ((x3.length : Nat) : Int) true)
  (forkB (decide (x0 > (1073741824 : Int)))
   (chunk_right_J0 n x1 x2 ((x3.length : Nat) : Int) true)
   (forkB (decide (x2 < (1 : Int)))
    (chunk_right_J0 n x1 x2 ((x3.length : Nat) : Int) true)
    (chunk_right_J0 n x1 x2 ((x3.length : Nat) : Int) (decide (x2 > (40 : Int)))))) := by kernel_rfl
theorem chunk_right_J0_eq (n : Nat) (s1 : Int) (s2 : Int) (s9 : Int) (s12 : Bool) : chunk_right_J0 (n + 1) s1 s2 s9 s12 =
  forkB s12
  (some false)
  (forkB (decide (s1 < (0 : Int)))
   (chunk_right_J1 n s1 s2 s9 true)
   (forkB (decide (s1 ≥ s2))
    (chunk_right_J1 n s1 s2 s9 true)
    (forkB (decide (s9 < (1 : Int)))
     (chunk_right_J1 n s1 s2 s9 true)
     (chunk_right_J1 n s1 s2 s9 (decide (s9 > (1024 : Int))))))) := by kernel_rfl
theorem chunk_right_J1_eq (n : Nat) (s1 : Int) (s2 : Int) (s9 : Int) (s27 : Bool) : chunk_right_J1 (n + 1) s1 s2 s9 s27 =
  forkB s27
  (some false)
  (forkB (s9 == (1024 : Int))
   (some true)
   (some (s1 == (IntKind.i64.wrap (s2 - (1 : Int)))))) := by kernel_rfl
noncomputable def chunk_right_sp : FnSpec TT := ⟨[.val (.int .i64), .val (.int .i64), .val (.int .i64), .val (.list (.int .u8))], [.val (.bool)], fun x => chunk_right BIG x.1 x.2.1 x.2.2.1 x.2.2.2⟩
theorem chunk_right_ok : FnOk TT Try.prog 14 chunk_right_sp := fnOk_of (C := chunk_right_C) (by kernel_rfl) chunk_right_env Try.func14 (show Try.f14.body = some (bodyOf Try.f14) by kernel_rfl) (by kernel_rfl) (by kernel_rfl) (cuts := chunk_right_cuts) fun x y h => ⟨BIG, h⟩
noncomputable def bytesClone_C : Ctx TT := ⟨tyOf, [], 0, [], layOf, drOf, pmOf⟩
theorem bytesClone_env : EnvOk TT Try.prog bytesClone_C.E := envNil
def bytesClone_cuts : List (Pos × Cut) := []
noncomputable def bytesClone (n : Nat) (x0 : List Int) : Option (List Int) := topF TT Try.prog bytesClone_C bytesClone_cuts Try.f16 (bodyOf Try.f16) ⟨[], []⟩ [.val (.list (.int .u8))] [.own 5 (.int .u8)] n x0
theorem bytesClone_eq (n : Nat) (x0 : List Int) : bytesClone n x0 =
  nilF x0.isEmpty
  (some ([] : List Int))
  (if (0 + x0.length) * 1 ≤ 140737488355328 then (some (([] : List Int) ++ x0)) else none) := by kernel_rfl
noncomputable def bytesClone_sp : FnSpec TT := ⟨[.val (.list (.int .u8))], [.own 5 (.int .u8)], fun x => bytesClone BIG x⟩
theorem bytesClone_ok : FnOk TT Try.prog 16 bytesClone_sp := fnOk_of (C := bytesClone_C) (by kernel_rfl) bytesClone_env Try.func16 (show Try.f16.body = some (bodyOf Try.f16) by kernel_rfl) (by kernel_rfl) (by kernel_rfl) (cuts := bytesClone_cuts) fun x y h => ⟨BIG, h⟩
noncomputable def chunk_upload_missing_g1_C : Ctx TT := ⟨tyOf, [], 1, [], layOf, drOf, pmOf⟩
theorem chunk_upload_missing_g1_env : EnvOk TT Try.prog chunk_upload_missing_g1_C.E := envNil
def chunk_upload_missing_g1_cuts : List (Pos × Cut) := []
noncomputable def chunk_upload_missing_g1 (n : Nat) (x0 : List (List Int)) (x1 : Int) : Option (((List (List Int) × Int × Unit) × Unit) × (((Unit) × ((Unit × Unit) × Unit)) × Unit)) := topG TT Try.prog chunk_upload_missing_g1_C chunk_upload_missing_g1_cuts Try.f21 (bodyOf Try.f21) ⟨[], [], [], [], []⟩ [.ptr 0 49 [.arr (.nl (.int .u8)) 40, .val (.int .i64)]] [.blk 49 [.arr (.nl (.int .u8)) 40, .val (.int .i64)]] [.fn 26 [] [.ptr 0 46 [.at_ 0 0]]] n ((x0, x1, ()), ())
theorem chunk_upload_missing_g1_eq (n : Nat) (x0 : List (List Int)) (x1 : Int) : chunk_upload_missing_g1 n x0 x1 =
  some (((x0, x1, ()), ()), (((), (((), ()), ())), ())) := by kernel_rfl
noncomputable def chunk_upload_missing_g1_sp : GSpec TT := ⟨[.ptr 0 49 [.arr (.nl (.int .u8)) 40, .val (.int .i64)]], [.blk 49 [.arr (.nl (.int .u8)) 40, .val (.int .i64)]], [.fn 26 [] [.ptr 0 46 [.at_ 0 0]]], fun x => chunk_upload_missing_g1 BIG x.1.1 x.1.2.1⟩
theorem chunk_upload_missing_g1_ok : GOk TT Try.prog 21 chunk_upload_missing_g1_sp := gOk_of (C := chunk_upload_missing_g1_C) (cuts := chunk_upload_missing_g1_cuts) (by kernel_rfl) chunk_upload_missing_g1_env Try.func21 (show Try.f21.body = some (bodyOf Try.f21) by kernel_rfl) (by kernel_rfl) (by kernel_rfl) (by kernel_rfl) fun x y h => ⟨BIG, h⟩
noncomputable def chunk_upload_done_g1a1_C : Ctx TT := ⟨tyOf, [(21, chunk_upload_missing_g1_sp.toCall (noCall TT)), (22, join_sp.toCall (noCall TT))], 1, [(3, 1)], layOf, drOf, pmOf⟩
theorem chunk_upload_done_g1a1_env : EnvOk TT Try.prog chunk_upload_done_g1a1_C.E := envG (gCall_ok chunk_upload_missing_g1_ok (noCall_ok 21)) (envG (gCall_ok join_ok (noCall_ok 22)) (envNil))
noncomputable def chunk_upload_done_g1a1_RU : RuP TT := ⟨1, 1, 26, .inr itMiss, [4, 0, 2]⟩
noncomputable def chunk_upload_done_g1a1 (x0 : List (List Int)) (x1 : Int) : Option (((List (List Int) × Int × Unit) × Unit) × (Unit × Unit)) := topU TT Try.prog chunk_upload_done_g1a1_C Try.f17 (bodyOf Try.f17) ⟨[], [], [], [], []⟩ [.ptr 0 49 [.arr (.nl (.int .u8)) 40, .val (.int .i64)]] [.blk 49 [.arr (.nl (.int .u8)) 40, .val (.int .i64)]] [.nils] chunk_upload_done_g1a1_RU ((x0, x1, ()), ())
theorem chunk_upload_done_g1a1_eq (x0 : List (List Int)) (x1 : Int) : chunk_upload_done_g1a1 x0 x1 =
  obind (chunk_upload_missing_g1 BIG x0 x1) fun y1 =>
  if missOk y1.1.1.2.1 = true then (forkB (missing y1.1.1.1 y1.1.1.2.1)
  (some (((y1.1.1.1, y1.1.1.2.1, ()), ()), ((), ())))
  (if 0 ≤ (0 : Int) ∧ (0 : Int) ≤ y1.1.1.2.1 ∧ y1.1.1.2.1 ≤ ((40 : Nat) : Int) then (obind (joinG y1.1.1.1 y1.1.1.2.1 0 (y1.1.1.2.1.toNat - 0)) fun y2 =>
   none) else none)) else none := by kernel_rfl
noncomputable def chunk_upload_done_g1a1_sp : GSpec TT := ⟨[.ptr 0 49 [.arr (.nl (.int .u8)) 40, .val (.int .i64)]], [.blk 49 [.arr (.nl (.int .u8)) 40, .val (.int .i64)]], [.nils], fun x => chunk_upload_done_g1a1 x.1.1 x.1.2.1⟩
theorem chunk_upload_done_g1a1_ok : GOk TT Try.prog 17 chunk_upload_done_g1a1_sp := gOkU_of (C := chunk_upload_done_g1a1_C) (D := chunk_upload_done_g1a1_RU) (by kernel_rfl) chunk_upload_done_g1a1_env Try.func17 (show Try.f17.body = some (bodyOf Try.f17) by kernel_rfl) (by kernel_rfl) (by kernel_rfl) (by kernel_rfl) (show RuP.ok Try.prog chunk_upload_done_g1a1_RU from miss_it) fun x y h => h
noncomputable def chunk_upload_done_g1a2_C : Ctx TT := ⟨tyOf, [(21, chunk_upload_missing_g1_sp.toCall (noCall TT)), (22, join_sp.toCall (noCall TT))], 1, [(3, 1)], layOf, drOf, pmOf⟩
theorem chunk_upload_done_g1a2_env : EnvOk TT Try.prog chunk_upload_done_g1a2_C.E := envG (gCall_ok chunk_upload_missing_g1_ok (noCall_ok 21)) (envG (gCall_ok join_ok (noCall_ok 22)) (envNil))
noncomputable def chunk_upload_done_g1a2_RU : RuP TT := ⟨1, 1, 26, .inr itMiss, [4, 0, 2]⟩
noncomputable def chunk_upload_done_g1a2 (x0 : List (List Int)) (x1 : Int) : Option (((List (List Int) × Int × Unit) × Unit) × (List Int × Unit)) := topU TT Try.prog chunk_upload_done_g1a2_C Try.f17 (bodyOf Try.f17) ⟨[], [], [], [], []⟩ [.ptr 0 49 [.arr (.nl (.int .u8)) 40, .val (.int .i64)]] [.blk 49 [.arr (.nl (.int .u8)) 40, .val (.int .i64)]] [.val (.list (.int .u8))] chunk_upload_done_g1a2_RU ((x0, x1, ()), ())
theorem chunk_upload_done_g1a2_eq (x0 : List (List Int)) (x1 : Int) : chunk_upload_done_g1a2 x0 x1 =
  obind (chunk_upload_missing_g1 BIG x0 x1) fun y1 =>
  if missOk y1.1.1.2.1 = true then (forkB (missing y1.1.1.1 y1.1.1.2.1)
  (some (((y1.1.1.1, y1.1.1.2.1, ()), ()), (([] : List Int), ())))
  (if 0 ≤ (0 : Int) ∧ (0 : Int) ≤ y1.1.1.2.1 ∧ y1.1.1.2.1 ≤ ((40 : Nat) : Int) then (obind (joinG y1.1.1.1 y1.1.1.2.1 0 (y1.1.1.2.1.toNat - 0)) fun y2 =>
   some (((y2.1.1.1, y2.1.1.2.1, ()), ()), (y2.2.1, ()))) else none)) else none := by kernel_rfl
noncomputable def chunk_upload_done_g1a2_sp : GSpec TT := ⟨[.ptr 0 49 [.arr (.nl (.int .u8)) 40, .val (.int .i64)]], [.blk 49 [.arr (.nl (.int .u8)) 40, .val (.int .i64)]], [.val (.list (.int .u8))], fun x => chunk_upload_done_g1a2 x.1.1 x.1.2.1⟩
theorem chunk_upload_done_g1a2_ok : GOk TT Try.prog 17 chunk_upload_done_g1a2_sp := gOkU_of (C := chunk_upload_done_g1a2_C) (D := chunk_upload_done_g1a2_RU) (by kernel_rfl) chunk_upload_done_g1a2_env Try.func17 (show Try.f17.body = some (bodyOf Try.f17) by kernel_rfl) (by kernel_rfl) (by kernel_rfl) (by kernel_rfl) (show RuP.ok Try.prog chunk_upload_done_g1a2_RU from miss_it) fun x y h => h
noncomputable def chunk_upload_done_g1_c0 (x0 : List (List Int)) (x1 : Int) : Bool := missing x0 x1
noncomputable def bytesEqual_C : Ctx TT := ⟨tyOf, [], 0, [], layOf, drOf, pmOf⟩
theorem bytesEqual_env : EnvOk TT Try.prog bytesEqual_C.E := envNil
def bytesEqual_cuts : List (Pos × Cut) := []
noncomputable def bytesEqual (n : Nat) (x0 : List Int) (x1 : List Int) : Option (Bool) := topF TT Try.prog bytesEqual_C bytesEqual_cuts Try.f15 (bodyOf Try.f15) ⟨[], []⟩ [.val (.list (.int .u8)), .val (.list (.int .u8))] [.val (.bool)] n (x0, x1)
theorem bytesEqual_eq (n : Nat) (x0 : List Int) (x1 : List Int) : bytesEqual n x0 x1 =
  some (ByteArray.toList (bytesStr x0) == ByteArray.toList (bytesStr x1)) := by kernel_rfl
noncomputable def bytesEqual_sp : FnSpec TT := ⟨[.val (.list (.int .u8)), .val (.list (.int .u8))], [.val (.bool)], fun x => bytesEqual BIG x.1 x.2⟩
theorem bytesEqual_ok : FnOk TT Try.prog 15 bytesEqual_sp := fnOk_of (C := bytesEqual_C) (by kernel_rfl) bytesEqual_env Try.func15 (show Try.f15.body = some (bodyOf Try.f15) by kernel_rfl) (by kernel_rfl) (by kernel_rfl) (cuts := bytesEqual_cuts) fun x y h => ⟨BIG, h⟩
noncomputable def chunkBoardPut_g1_C : Ctx TT := ⟨tyOf, [(13, chunkBoard_known_g1_sp.toCall (noCall TT)), (14, chunk_right_sp.toCall), (16, bytesClone_sp.toCall), (17, (CallSpec.forkS [.ptr 0 49 [.arr (.nl (.int .u8)) 40, .val (.int .i64)]] (fun x => chunk_upload_done_g1_c0 x.1.1 x.1.2.1) (chunk_upload_done_g1a1_sp.toCall (noCall TT)) (chunk_upload_done_g1a2_sp.toCall (noCall TT)))), (15, bytesEqual_sp.toCall)], 2, [(11, 1)], layOf, drOf, pmOf⟩
theorem chunkBoardPut_g1_env : EnvOk TT Try.prog chunkBoardPut_g1_C.E := envG (gCall_ok chunkBoard_known_g1_ok (noCall_ok 13)) (envG (fnCall_ok chunk_right_ok) (envG (fnCall_ok bytesClone_ok) (envG (forkSCall_ok _ _ (gCall_ok chunk_upload_done_g1a1_ok (noCall_ok 17)) (gCall_ok chunk_upload_done_g1a2_ok (noCall_ok 17))) (envG (fnCall_ok bytesEqual_ok) (envNil)))))
def chunkBoardPut_g1_cuts : List (Pos × Cut) := []
noncomputable def chunkBoardPut_g1 (n : Nat) (x0 : List (Int × Upload)) (x1 : Int) (x2 : Int) (x3 : Int) (x4 : List Int) : Option (((Unit × Unit) × (List (Int × Upload)) × Unit) × (List Int × Int × Unit)) := topG TT Try.prog chunkBoardPut_g1_C chunkBoardPut_g1_cuts Try.f5 (bodyOf Try.f5) ⟨[], [], [(0, 0, 4000000001, .bool)], [], []⟩ [.ptr 0 28 [.pm .i64 49 0], .val (.int .i64), .val (.int .i64), .val (.int .i64), .val (.list (.int .u8))] [.blk 28 [.mpo 1], .pm .i64 49 0] [.val (.list (.int .u8)), .val (.int .i64)] n ((x0, ()), x1, x2, x3, x4, ())
theorem chunkBoardPut_g1_eq (n : Nat) (x0 : List (Int × Upload)) (x1 : Int) (x2 : Int) (x3 : Int) (x4 : List Int) : chunkBoardPut_g1 n x0 x1 x2 x3 x4 =
  obind (chunkBoard_known_g1 BIG x0) fun y1 =>
  forkB (!y1.2.1)
  (some ((((), ()), y1.1.2.1, ()), (([] : List Int), (1 : Int), ())))
  (obind (chunk_right BIG x1 x2 x3 x4) fun y2 =>
   forkB (!y2)
   (some ((((), ()), y1.1.2.1, ()), (([] : List Int), (2 : Int), ())))
   (forkB (thas y1.1.2.1 x1)
    (if 0 ≤ x2 ∧ x2 < ((40 : Nat) : Int) then (forkB (((tget TT (.user 0) y1.1.2.1 x1 : Upload).whole) != x3)
     (some ((((), ()), tset y1.1.2.1 x1 (⟨fixL 40 ([] : List Int) ((tget TT (.user 0) y1.1.2.1 x1 : Upload).pieces), (tget TT (.user 0) y1.1.2.1 x1 : Upload).whole⟩ : Upload), ()), (([] : List Int), (7 : Int), ())))
     (forkB (((fixL 40 ([] : List Int) ((tget TT (.user 0) y1.1.2.1 x1 : Upload).pieces)).getD x2.toNat ([] : List Int)).isEmpty)
      (obind (bytesClone BIG x4) fun y3 =>
       if 0 ≤ x2 ∧ x2 < ((40 : Nat) : Int) then (if 0 < y3.length then (if x1 = x1 then (forkB (missing ((fixL 40 ([] : List Int) ((tget TT (.user 0) y1.1.2.1 x1 : Upload).pieces)).set x2.toNat y3) ((tget TT (.user 0) y1.1.2.1 x1 : Upload).whole))
       (obind (chunk_upload_done_g1a1 ((fixL 40 ([] : List Int) ((tget TT (.user 0) y1.1.2.1 x1 : Upload).pieces)).set x2.toNat y3) ((tget TT (.user 0) y1.1.2.1 x1 : Upload).whole)) fun y4 =>
        some ((((), ()), tset y1.1.2.1 x1 (⟨y4.1.1.1, y4.1.1.2.1⟩ : Upload), ()), (([] : List Int), (0 : Int), ())))
       (obind (chunk_upload_done_g1a2 ((fixL 40 ([] : List Int) ((tget TT (.user 0) y1.1.2.1 x1 : Upload).pieces)).set x2.toNat y3) ((tget TT (.user 0) y1.1.2.1 x1 : Upload).whole)) fun y5 =>
        nilF y5.2.1.isEmpty
        (some ((((), ()), tset y1.1.2.1 x1 (⟨y5.1.1.1, y5.1.1.2.1⟩ : Upload), ()), (y5.2.1, (0 : Int), ())))
        (if x1 = x1 then (some ((((), ()), tdel y1.1.2.1 x1, ()), (y5.2.1, (0 : Int), ()))) else none))) else none) else none) else none)
      (obind (bytesEqual BIG ((fixL 40 ([] : List Int) ((tget TT (.user 0) y1.1.2.1 x1 : Upload).pieces)).getD x2.toNat ([] : List Int)) x4) fun y6 =>
       forkB (!y6)
       (some ((((), ()), tset y1.1.2.1 x1 (⟨fixL 40 ([] : List Int) ((tget TT (.user 0) y1.1.2.1 x1 : Upload).pieces), (tget TT (.user 0) y1.1.2.1 x1 : Upload).whole⟩ : Upload), ()), (([] : List Int), (7 : Int), ())))
       (obind (bytesClone BIG x4) fun y7 =>
        if 0 ≤ x2 ∧ x2 < ((40 : Nat) : Int) then (if 0 < y7.length then (if x1 = x1 then (forkB (missing ((fixL 40 ([] : List Int) ((tget TT (.user 0) y1.1.2.1 x1 : Upload).pieces)).set x2.toNat y7) ((tget TT (.user 0) y1.1.2.1 x1 : Upload).whole))
        (obind (chunk_upload_done_g1a1 ((fixL 40 ([] : List Int) ((tget TT (.user 0) y1.1.2.1 x1 : Upload).pieces)).set x2.toNat y7) ((tget TT (.user 0) y1.1.2.1 x1 : Upload).whole)) fun y8 =>
         some ((((), ()), tset y1.1.2.1 x1 (⟨y8.1.1.1, y8.1.1.2.1⟩ : Upload), ()), (([] : List Int), (0 : Int), ())))
        (obind (chunk_upload_done_g1a2 ((fixL 40 ([] : List Int) ((tget TT (.user 0) y1.1.2.1 x1 : Upload).pieces)).set x2.toNat y7) ((tget TT (.user 0) y1.1.2.1 x1 : Upload).whole)) fun y9 =>
         nilF y9.2.1.isEmpty
         (some ((((), ()), tset y1.1.2.1 x1 (⟨y9.1.1.1, y9.1.1.2.1⟩ : Upload), ()), (y9.2.1, (0 : Int), ())))
         (if x1 = x1 then (some ((((), ()), tdel y1.1.2.1 x1, ()), (y9.2.1, (0 : Int), ()))) else none))) else none) else none) else none)))) else none)
    (if 0 ≤ x2 ∧ x2 < ((40 : Nat) : Int) then (forkB (x3 != x3)
     (some ((((), ()), y1.1.2.1, ()), (([] : List Int), (7 : Int), ())))
     (forkB (((List.replicate 40 ([] : List Int)).getD x2.toNat ([] : List Int)).isEmpty)
      (obind (bytesClone BIG x4) fun y10 =>
       if 0 ≤ x2 ∧ x2 < ((40 : Nat) : Int) then (if 0 < y10.length then (forkB (missing ((List.replicate 40 ([] : List Int)).set x2.toNat y10) x3)
       (obind (chunk_upload_done_g1a1 ((List.replicate 40 ([] : List Int)).set x2.toNat y10) x3) fun y11 =>
        some ((((), ()), tset (tset y1.1.2.1 x1 (⟨(List.replicate 40 ([] : List Int)).set x2.toNat y10, x3⟩ : Upload)) x1 (⟨y11.1.1.1, y11.1.1.2.1⟩ : Upload), ()), (([] : List Int), (0 : Int), ())))
       (obind (chunk_upload_done_g1a2 ((List.replicate 40 ([] : List Int)).set x2.toNat y10) x3) fun y12 =>
        nilF y12.2.1.isEmpty
        (some ((((), ()), tset (tset y1.1.2.1 x1 (⟨(List.replicate 40 ([] : List Int)).set x2.toNat y10, x3⟩ : Upload)) x1 (⟨y12.1.1.1, y12.1.1.2.1⟩ : Upload), ()), (y12.2.1, (0 : Int), ())))
        (if x1 = x1 then (some ((((), ()), tdel (tset y1.1.2.1 x1 (⟨(List.replicate 40 ([] : List Int)).set x2.toNat y10, x3⟩ : Upload)) x1, ()), (y12.2.1, (0 : Int), ()))) else none))) else none) else none)
      (obind (bytesEqual BIG ((List.replicate 40 ([] : List Int)).getD x2.toNat ([] : List Int)) x4) fun y13 =>
       forkB (!y13)
       (some ((((), ()), y1.1.2.1, ()), (([] : List Int), (7 : Int), ())))
       (obind (bytesClone BIG x4) fun y14 =>
        if 0 ≤ x2 ∧ x2 < ((40 : Nat) : Int) then (if 0 < y14.length then (forkB (missing ((List.replicate 40 ([] : List Int)).set x2.toNat y14) x3)
        (obind (chunk_upload_done_g1a1 ((List.replicate 40 ([] : List Int)).set x2.toNat y14) x3) fun y15 =>
         some ((((), ()), tset (tset y1.1.2.1 x1 (⟨(List.replicate 40 ([] : List Int)).set x2.toNat y14, x3⟩ : Upload)) x1 (⟨y15.1.1.1, y15.1.1.2.1⟩ : Upload), ()), (([] : List Int), (0 : Int), ())))
        (obind (chunk_upload_done_g1a2 ((List.replicate 40 ([] : List Int)).set x2.toNat y14) x3) fun y16 =>
         nilF y16.2.1.isEmpty
         (some ((((), ()), tset (tset y1.1.2.1 x1 (⟨(List.replicate 40 ([] : List Int)).set x2.toNat y14, x3⟩ : Upload)) x1 (⟨y16.1.1.1, y16.1.1.2.1⟩ : Upload), ()), (y16.2.1, (0 : Int), ())))
         (if x1 = x1 then (some ((((), ()), tdel (tset y1.1.2.1 x1 (⟨(List.replicate 40 ([] : List Int)).set x2.toNat y14, x3⟩ : Upload)) x1, ()), (y16.2.1, (0 : Int), ()))) else none))) else none) else none)))) else none))) := by kernel_rfl
noncomputable def chunkBoardPut_g1_sp : GSpec TT := ⟨[.ptr 0 28 [.pm .i64 49 0], .val (.int .i64), .val (.int .i64), .val (.int .i64), .val (.list (.int .u8))], [.blk 28 [.mpo 1], .pm .i64 49 0], [.val (.list (.int .u8)), .val (.int .i64)], fun x => chunkBoardPut_g1 BIG x.1.1 x.2.1 x.2.2.1 x.2.2.2.1 x.2.2.2.2.1⟩
theorem chunkBoardPut_g1_ok : GOk TT Try.prog 5 chunkBoardPut_g1_sp := gOk_of (C := chunkBoardPut_g1_C) (cuts := chunkBoardPut_g1_cuts) (by kernel_rfl) chunkBoardPut_g1_env Try.func5 (show Try.f5.body = some (bodyOf Try.f5) by kernel_rfl) (by kernel_rfl) (by kernel_rfl) (by kernel_rfl) fun x y h => ⟨BIG, h⟩
noncomputable def mapsKeys_g1_C : Ctx TT := ⟨tyOf, [], 1, [], layOf, drOf, pmOf⟩
theorem mapsKeys_g1_env : EnvOk TT Try.prog mapsKeys_g1_C.E := envNil
def mapsKeys_g1_cuts : List (Pos × Cut) := []
noncomputable def mapsKeys_g1 (n : Nat) (x0 : List (Int × Upload)) : Option (((List (Int × Upload)) × Unit) × (((Unit) × ((Unit × Unit) × Unit)) × Unit)) := topG TT Try.prog mapsKeys_g1_C mapsKeys_g1_cuts Try.f24 (bodyOf Try.f24) ⟨[], [], [], [], []⟩ [.pm .i64 49 0] [.pm .i64 49 0] [.fn 30 [] [.ptr 0 24 [.mpo 0]]] n (x0, ())
theorem mapsKeys_g1_eq (n : Nat) (x0 : List (Int × Upload)) : mapsKeys_g1 n x0 =
  some ((x0, ()), (((), (((), ()), ())), ())) := by kernel_rfl
noncomputable def mapsKeys_g1_sp : GSpec TT := ⟨[.pm .i64 49 0], [.pm .i64 49 0], [.fn 30 [] [.ptr 0 24 [.mpo 0]]], fun x => mapsKeys_g1 BIG x.1⟩
theorem mapsKeys_g1_ok : GOk TT Try.prog 24 mapsKeys_g1_sp := gOk_of (C := mapsKeys_g1_C) (cuts := mapsKeys_g1_cuts) (by kernel_rfl) mapsKeys_g1_env Try.func24 (show Try.f24.body = some (bodyOf Try.f24) by kernel_rfl) (by kernel_rfl) (by kernel_rfl) (by kernel_rfl) fun x y h => ⟨BIG, h⟩
noncomputable def chunk_table_versions_g1_C : Ctx TT := ⟨tyOf, [(24, mapsKeys_g1_sp.toCall (noCall TT)), (23, sorted_sp.toCall (noCall TT))], 1, [], layOf, drOf, pmOf⟩
theorem chunk_table_versions_g1_env : EnvOk TT Try.prog chunk_table_versions_g1_C.E := envG (gCall_ok mapsKeys_g1_ok (noCall_ok 24)) (envG (gCall_ok sorted_ok (noCall_ok 23)) (envNil))
def chunk_table_versions_g1_cuts : List (Pos × Cut) := []
noncomputable def chunk_table_versions_g1 (n : Nat) (x0 : List (Int × Upload)) : Option (((List (Int × Upload)) × Unit) × (List Int × Unit)) := topG TT Try.prog chunk_table_versions_g1_C chunk_table_versions_g1_cuts Try.f18 (bodyOf Try.f18) ⟨[], [], [], [], []⟩ [.agg [.pm .i64 49 0]] [.pm .i64 49 0] [.row 3 (.int .i64)] n ((x0, ()), ())
theorem chunk_table_versions_g1_eq (n : Nat) (x0 : List (Int × Upload)) : chunk_table_versions_g1 n x0 =
  obind (mapsKeys_g1 BIG x0) fun y1 =>
  obind (sortedKeys y1.1.1) fun y2 =>
  some ((y2.1.2.1, ()), (y2.2.1, ())) := by kernel_rfl
noncomputable def chunk_table_versions_g1_sp : GSpec TT := ⟨[.agg [.pm .i64 49 0]], [.pm .i64 49 0], [.row 3 (.int .i64)], fun x => chunk_table_versions_g1 BIG x.1.1⟩
theorem chunk_table_versions_g1_ok : GOk TT Try.prog 18 chunk_table_versions_g1_sp := gOk_of (C := chunk_table_versions_g1_C) (cuts := chunk_table_versions_g1_cuts) (by kernel_rfl) chunk_table_versions_g1_env Try.func18 (show Try.f18.body = some (bodyOf Try.f18) by kernel_rfl) (by kernel_rfl) (by kernel_rfl) (by kernel_rfl) fun x y h => ⟨BIG, h⟩
noncomputable def chunkBoardOpen_g1_C : Ctx TT := ⟨tyOf, [(13, chunkBoard_known_g1_sp.toCall (noCall TT)), (18, chunk_table_versions_g1_sp.toCall (noCall TT))], 2, [], layOf, drOf, pmOf⟩
theorem chunkBoardOpen_g1_env : EnvOk TT Try.prog chunkBoardOpen_g1_C.E := envG (gCall_ok chunkBoard_known_g1_ok (noCall_ok 13)) (envG (gCall_ok chunk_table_versions_g1_ok (noCall_ok 18)) (envNil))
def chunkBoardOpen_g1_cuts : List (Pos × Cut) := []
noncomputable def chunkBoardOpen_g1 (n : Nat) (x0 : List (Int × Upload)) : Option (((Unit × Unit) × (List (Int × Upload)) × Unit) × (List Int × Unit)) := topG TT Try.prog chunkBoardOpen_g1_C chunkBoardOpen_g1_cuts Try.f6 (bodyOf Try.f6) ⟨[(0, 3, .int .i64, true)], [], [], [], []⟩ [.ptr 0 28 [.pm .i64 49 0]] [.blk 28 [.mpo 1], .pm .i64 49 0] [.row 3 (.int .i64)] n ((x0, ()), ())
theorem chunkBoardOpen_g1_eq (n : Nat) (x0 : List (Int × Upload)) : chunkBoardOpen_g1 n x0 =
  obind (chunkBoard_known_g1 BIG x0) fun y1 =>
  forkB (!y1.2.1)
  (some ((((), ()), y1.1.2.1, ()), (([] : List Int), ())))
  (obind (chunk_table_versions_g1 BIG y1.1.2.1) fun y2 =>
   some ((((), ()), y2.1.1, ()), (y2.2.1, ()))) := by kernel_rfl
noncomputable def chunkBoardOpen_g1_sp : GSpec TT := ⟨[.ptr 0 28 [.pm .i64 49 0]], [.blk 28 [.mpo 1], .pm .i64 49 0], [.row 3 (.int .i64)], fun x => chunkBoardOpen_g1 BIG x.1.1⟩
theorem chunkBoardOpen_g1_ok : GOk TT Try.prog 6 chunkBoardOpen_g1_sp := gOk_of (C := chunkBoardOpen_g1_C) (cuts := chunkBoardOpen_g1_cuts) (by kernel_rfl) chunkBoardOpen_g1_env Try.func6 (show Try.f6.body = some (bodyOf Try.f6) by kernel_rfl) (by kernel_rfl) (by kernel_rfl) (by kernel_rfl) fun x y h => ⟨BIG, h⟩
noncomputable def chunkBoardPut_g2_C : Ctx TT := ⟨tyOf, [(13, chunkBoard_known_g1_sp.toCall (noCall TT)), (14, chunk_right_sp.toCall), (16, bytesClone_sp.toCall), (17, (CallSpec.forkS [.ptr 0 49 [.arr (.nl (.int .u8)) 40, .val (.int .i64)]] (fun x => chunk_upload_done_g1_c0 x.1.1 x.1.2.1) (chunk_upload_done_g1a1_sp.toCall (noCall TT)) (chunk_upload_done_g1a2_sp.toCall (noCall TT)))), (15, bytesEqual_sp.toCall)], 3, [(11, 1)], layOf, drOf, pmOf⟩
theorem chunkBoardPut_g2_env : EnvOk TT Try.prog chunkBoardPut_g2_C.E := envG (gCall_ok chunkBoard_known_g1_ok (noCall_ok 13)) (envG (fnCall_ok chunk_right_ok) (envG (fnCall_ok bytesClone_ok) (envG (forkSCall_ok _ _ (gCall_ok chunk_upload_done_g1a1_ok (noCall_ok 17)) (gCall_ok chunk_upload_done_g1a2_ok (noCall_ok 17))) (envG (fnCall_ok bytesEqual_ok) (envNil)))))
def chunkBoardPut_g2_cuts : List (Pos × Cut) := []
noncomputable def chunkBoardPut_g2 (n : Nat) (x0 : List (Int × Upload)) (x1 : Int) (x2 : Int) (x3 : Int) (x4 : List Int) : Option (((Unit × Unit) × (List (Int × Upload)) × List Int × Unit) × (List Int × Int × Unit)) := topG TT Try.prog chunkBoardPut_g2_C chunkBoardPut_g2_cuts Try.f5 (bodyOf Try.f5) ⟨[], [], [(0, 0, 4000000001, .bool)], [], []⟩ [.ptr 0 28 [.pm .i64 49 0], .val (.int .i64), .val (.int .i64), .val (.int .i64), .row 5 (.int .u8)] [.blk 28 [.mpo 1], .pm .i64 49 0, .row 5 (.int .u8)] [.val (.list (.int .u8)), .val (.int .i64)] n ((x0, ()), x1, x2, x3, x4, ())
theorem chunkBoardPut_g2_eq (n : Nat) (x0 : List (Int × Upload)) (x1 : Int) (x2 : Int) (x3 : Int) (x4 : List Int) : chunkBoardPut_g2 n x0 x1 x2 x3 x4 =
  obind (chunkBoard_known_g1 BIG x0) fun y1 =>
  forkB (!y1.2.1)
  (some ((((), ()), y1.1.2.1, x4, ()), (([] : List Int), (1 : Int), ())))
  (obind (chunk_right BIG x1 x2 x3 x4) fun y2 =>
   forkB (!y2)
   (some ((((), ()), y1.1.2.1, x4, ()), (([] : List Int), (2 : Int), ())))
   (forkB (thas y1.1.2.1 x1)
    (if 0 ≤ x2 ∧ x2 < ((40 : Nat) : Int) then (forkB (((tget TT (.user 0) y1.1.2.1 x1 : Upload).whole) != x3)
     (some ((((), ()), tset y1.1.2.1 x1 (⟨fixL 40 ([] : List Int) ((tget TT (.user 0) y1.1.2.1 x1 : Upload).pieces), (tget TT (.user 0) y1.1.2.1 x1 : Upload).whole⟩ : Upload), x4, ()), (([] : List Int), (7 : Int), ())))
     (forkB (((fixL 40 ([] : List Int) ((tget TT (.user 0) y1.1.2.1 x1 : Upload).pieces)).getD x2.toNat ([] : List Int)).isEmpty)
      (obind (bytesClone BIG x4) fun y3 =>
       if 0 ≤ x2 ∧ x2 < ((40 : Nat) : Int) then (if 0 < y3.length then (if x1 = x1 then (forkB (missing ((fixL 40 ([] : List Int) ((tget TT (.user 0) y1.1.2.1 x1 : Upload).pieces)).set x2.toNat y3) ((tget TT (.user 0) y1.1.2.1 x1 : Upload).whole))
       (obind (chunk_upload_done_g1a1 ((fixL 40 ([] : List Int) ((tget TT (.user 0) y1.1.2.1 x1 : Upload).pieces)).set x2.toNat y3) ((tget TT (.user 0) y1.1.2.1 x1 : Upload).whole)) fun y4 =>
        some ((((), ()), tset y1.1.2.1 x1 (⟨y4.1.1.1, y4.1.1.2.1⟩ : Upload), x4, ()), (([] : List Int), (0 : Int), ())))
       (obind (chunk_upload_done_g1a2 ((fixL 40 ([] : List Int) ((tget TT (.user 0) y1.1.2.1 x1 : Upload).pieces)).set x2.toNat y3) ((tget TT (.user 0) y1.1.2.1 x1 : Upload).whole)) fun y5 =>
        nilF y5.2.1.isEmpty
        (some ((((), ()), tset y1.1.2.1 x1 (⟨y5.1.1.1, y5.1.1.2.1⟩ : Upload), x4, ()), (y5.2.1, (0 : Int), ())))
        (if x1 = x1 then (some ((((), ()), tdel y1.1.2.1 x1, x4, ()), (y5.2.1, (0 : Int), ()))) else none))) else none) else none) else none)
      (obind (bytesEqual BIG ((fixL 40 ([] : List Int) ((tget TT (.user 0) y1.1.2.1 x1 : Upload).pieces)).getD x2.toNat ([] : List Int)) x4) fun y6 =>
       forkB (!y6)
       (some ((((), ()), tset y1.1.2.1 x1 (⟨fixL 40 ([] : List Int) ((tget TT (.user 0) y1.1.2.1 x1 : Upload).pieces), (tget TT (.user 0) y1.1.2.1 x1 : Upload).whole⟩ : Upload), x4, ()), (([] : List Int), (7 : Int), ())))
       (obind (bytesClone BIG x4) fun y7 =>
        if 0 ≤ x2 ∧ x2 < ((40 : Nat) : Int) then (if 0 < y7.length then (if x1 = x1 then (forkB (missing ((fixL 40 ([] : List Int) ((tget TT (.user 0) y1.1.2.1 x1 : Upload).pieces)).set x2.toNat y7) ((tget TT (.user 0) y1.1.2.1 x1 : Upload).whole))
        (obind (chunk_upload_done_g1a1 ((fixL 40 ([] : List Int) ((tget TT (.user 0) y1.1.2.1 x1 : Upload).pieces)).set x2.toNat y7) ((tget TT (.user 0) y1.1.2.1 x1 : Upload).whole)) fun y8 =>
         some ((((), ()), tset y1.1.2.1 x1 (⟨y8.1.1.1, y8.1.1.2.1⟩ : Upload), x4, ()), (([] : List Int), (0 : Int), ())))
        (obind (chunk_upload_done_g1a2 ((fixL 40 ([] : List Int) ((tget TT (.user 0) y1.1.2.1 x1 : Upload).pieces)).set x2.toNat y7) ((tget TT (.user 0) y1.1.2.1 x1 : Upload).whole)) fun y9 =>
         nilF y9.2.1.isEmpty
         (some ((((), ()), tset y1.1.2.1 x1 (⟨y9.1.1.1, y9.1.1.2.1⟩ : Upload), x4, ()), (y9.2.1, (0 : Int), ())))
         (if x1 = x1 then (some ((((), ()), tdel y1.1.2.1 x1, x4, ()), (y9.2.1, (0 : Int), ()))) else none))) else none) else none) else none)))) else none)
    (if 0 ≤ x2 ∧ x2 < ((40 : Nat) : Int) then (forkB (x3 != x3)
     (some ((((), ()), y1.1.2.1, x4, ()), (([] : List Int), (7 : Int), ())))
     (forkB (((List.replicate 40 ([] : List Int)).getD x2.toNat ([] : List Int)).isEmpty)
      (obind (bytesClone BIG x4) fun y10 =>
       if 0 ≤ x2 ∧ x2 < ((40 : Nat) : Int) then (if 0 < y10.length then (forkB (missing ((List.replicate 40 ([] : List Int)).set x2.toNat y10) x3)
       (obind (chunk_upload_done_g1a1 ((List.replicate 40 ([] : List Int)).set x2.toNat y10) x3) fun y11 =>
        some ((((), ()), tset (tset y1.1.2.1 x1 (⟨(List.replicate 40 ([] : List Int)).set x2.toNat y10, x3⟩ : Upload)) x1 (⟨y11.1.1.1, y11.1.1.2.1⟩ : Upload), x4, ()), (([] : List Int), (0 : Int), ())))
       (obind (chunk_upload_done_g1a2 ((List.replicate 40 ([] : List Int)).set x2.toNat y10) x3) fun y12 =>
        nilF y12.2.1.isEmpty
        (some ((((), ()), tset (tset y1.1.2.1 x1 (⟨(List.replicate 40 ([] : List Int)).set x2.toNat y10, x3⟩ : Upload)) x1 (⟨y12.1.1.1, y12.1.1.2.1⟩ : Upload), x4, ()), (y12.2.1, (0 : Int), ())))
        (if x1 = x1 then (some ((((), ()), tdel (tset y1.1.2.1 x1 (⟨(List.replicate 40 ([] : List Int)).set x2.toNat y10, x3⟩ : Upload)) x1, x4, ()), (y12.2.1, (0 : Int), ()))) else none))) else none) else none)
      (obind (bytesEqual BIG ((List.replicate 40 ([] : List Int)).getD x2.toNat ([] : List Int)) x4) fun y13 =>
       forkB (!y13)
       (some ((((), ()), y1.1.2.1, x4, ()), (([] : List Int), (7 : Int), ())))
       (obind (bytesClone BIG x4) fun y14 =>
        if 0 ≤ x2 ∧ x2 < ((40 : Nat) : Int) then (if 0 < y14.length then (forkB (missing ((List.replicate 40 ([] : List Int)).set x2.toNat y14) x3)
        (obind (chunk_upload_done_g1a1 ((List.replicate 40 ([] : List Int)).set x2.toNat y14) x3) fun y15 =>
         some ((((), ()), tset (tset y1.1.2.1 x1 (⟨(List.replicate 40 ([] : List Int)).set x2.toNat y14, x3⟩ : Upload)) x1 (⟨y15.1.1.1, y15.1.1.2.1⟩ : Upload), x4, ()), (([] : List Int), (0 : Int), ())))
        (obind (chunk_upload_done_g1a2 ((List.replicate 40 ([] : List Int)).set x2.toNat y14) x3) fun y16 =>
         nilF y16.2.1.isEmpty
         (some ((((), ()), tset (tset y1.1.2.1 x1 (⟨(List.replicate 40 ([] : List Int)).set x2.toNat y14, x3⟩ : Upload)) x1 (⟨y16.1.1.1, y16.1.1.2.1⟩ : Upload), x4, ()), (y16.2.1, (0 : Int), ())))
         (if x1 = x1 then (some ((((), ()), tdel (tset y1.1.2.1 x1 (⟨(List.replicate 40 ([] : List Int)).set x2.toNat y14, x3⟩ : Upload)) x1, x4, ()), (y16.2.1, (0 : Int), ()))) else none))) else none) else none)))) else none))) := by kernel_rfl
noncomputable def chunkBoardPut_g2_sp : GSpec TT := ⟨[.ptr 0 28 [.pm .i64 49 0], .val (.int .i64), .val (.int .i64), .val (.int .i64), .row 5 (.int .u8)], [.blk 28 [.mpo 1], .pm .i64 49 0, .row 5 (.int .u8)], [.val (.list (.int .u8)), .val (.int .i64)], fun x => chunkBoardPut_g2 BIG x.1.1 x.2.1 x.2.2.1 x.2.2.2.1 x.2.2.2.2.1⟩
theorem chunkBoardPut_g2_ok : GOk TT Try.prog 5 chunkBoardPut_g2_sp := gOk_of (C := chunkBoardPut_g2_C) (cuts := chunkBoardPut_g2_cuts) (by kernel_rfl) chunkBoardPut_g2_env Try.func5 (show Try.f5.body = some (bodyOf Try.f5) by kernel_rfl) (by kernel_rfl) (by kernel_rfl) (by kernel_rfl) fun x y h => ⟨BIG, h⟩
noncomputable def kitSameInts_C : Ctx TT := ⟨tyOf, [], 0, [], layOf, drOf, pmOf⟩
theorem kitSameInts_env : EnvOk TT Try.prog kitSameInts_C.E := envNil
def kitSameInts_cuts : List (Pos × Cut) := [([false, true, false, true, true], ⟨[0, 1, 5], [], false, [], 0, false⟩)]
noncomputable def kitSameInts (n : Nat) (x0 : List Int) (x1 : List Int) : Option (Bool) := topF TT Try.prog kitSameInts_C kitSameInts_cuts Try.f19 (bodyOf Try.f19) ⟨[], []⟩ [.val (.list (.int .i64)), .val (.list (.int .i64))] [.val (.bool)] n (x0, x1)
noncomputable def kitSameInts_L0 (n : Nat) (s0 : List Int) (s1 : List Int) (s5 : Int) : Option (Bool) := cutF TT Try.prog kitSameInts_C kitSameInts_cuts Try.f19 (bodyOf Try.f19) ⟨[], []⟩ [.val (.list (.int .i64)), .val (.list (.int .i64))] [.val (.bool)] n [false, true, false, true, true] ⟨[(0, .cell ⟨.list (.int .i64), s0⟩), (1, .cell ⟨.list (.int .i64), s1⟩), (5, .cell ⟨.int .i64, s5⟩)], []⟩
theorem kitSameInts_eq (n : Nat) (x0 : List Int) (x1 : List Int) : kitSameInts n x0 x1 =
  forkB (((x0.length : Nat) : Int) != ((x1.length : Nat) : Int))
  (some false)
  (kitSameInts_L0 n x0 x1 (0 : Int)) := by kernel_rfl
theorem kitSameInts_L0_eq (n : Nat) (s0 : List Int) (s1 : List Int) (s5 : Int) : kitSameInts_L0 (n + 1) s0 s1 s5 =
  forkB (decide (s5 < ((s0.length : Nat) : Int)))
  (if 0 ≤ s5 ∧ s5 < ((s0.length : Nat) : Int) then (if 0 ≤ s5 ∧ s5 < ((s1.length : Nat) : Int) then (forkB ((s0.getD s5.toNat (0 : Int)) != (s1.getD s5.toNat (0 : Int)))
   (some false)
   (kitSameInts_L0 n s0 s1 (IntKind.i64.wrap (s5 + (1 : Int))))) else none) else none)
  (some true) := by kernel_rfl
noncomputable def kitSameInts_sp : FnSpec TT := ⟨[.val (.list (.int .i64)), .val (.list (.int .i64))], [.val (.bool)], fun x => kitSameInts BIG x.1 x.2⟩
theorem kitSameInts_ok : FnOk TT Try.prog 19 kitSameInts_sp := fnOk_of (C := kitSameInts_C) (by kernel_rfl) kitSameInts_env Try.func19 (show Try.f19.body = some (bodyOf Try.f19) by kernel_rfl) (by kernel_rfl) (by kernel_rfl) (cuts := kitSameInts_cuts) fun x y h => ⟨BIG, h⟩
noncomputable def law20_awake_C : Ctx TT := ⟨tyOf, [(11, chunkNew_g1_sp.toCall (noCall TT)), (5, chunkBoardPut_g2_sp.toCall (chunkBoardPut_g1_sp.toCall (noCall TT))), (6, chunkBoardOpen_g1_sp.toCall (noCall TT)), (19, kitSameInts_sp.toCall)], 0, [], layOf, drOf, pmOf⟩
theorem law20_awake_env : EnvOk TT Try.prog law20_awake_C.E := envG (gCall_ok chunkNew_g1_ok (noCall_ok 11)) (envG (gCall_ok chunkBoardPut_g2_ok (gCall_ok chunkBoardPut_g1_ok (noCall_ok 5))) (envG (gCall_ok chunkBoardOpen_g1_ok (noCall_ok 6)) (envG (fnCall_ok kitSameInts_ok) (envNil))))
def law20_awake_cuts : List (Pos × Cut) := []
noncomputable def law20_awake (n : Nat)  : Option (Bool) := topF TT Try.prog law20_awake_C law20_awake_cuts Try.f8 (bodyOf Try.f8) ⟨[], []⟩ [] [.val (.bool)] n ()
theorem law20_awake_eq (n : Nat)  : law20_awake n  =
  obind (chunkNew_g1 BIG ) fun y1 =>
  obind (chunkBoardPut_g1 BIG y1.2.1.1 (7 : Int) (1 : Int) (2 : Int) ([(98 : Int)] : List Int)) fun y2 =>
  obind (chunkBoardOpen_g1 BIG y2.1.2.1) fun y3 =>
  obind (chunkBoardPut_g1 BIG y3.1.2.1 (7 : Int) (1 : Int) (2 : Int) ([(98 : Int)] : List Int)) fun y4 =>
  obind (chunkBoardPut_g1 BIG y4.1.2.1 (7 : Int) (1 : Int) (2 : Int) ([(99 : Int)] : List Int)) fun y5 =>
  obind (chunkBoardPut_g1 BIG y5.1.2.1 (7 : Int) (0 : Int) (2 : Int) ([(97 : Int)] : List Int)) fun y6 =>
  if 0 ≤ (1024 : Int) ∧ (1024 : Int) ≤ (1024 : Int) ∧ 1 * 1024 ≤ 281474976710656 ∧ (1024 : Int) ≤ 9223372036854775807 then (obind (chunkBoardPut_g2 BIG y6.1.2.1 (7 : Int) (0 : Int) (2 : Int) (List.replicate 1024 (0 : Int))) fun y7 =>
  forkB (y2.2.2.1 == (0 : Int))
  (forkB (((y2.2.1.length : Nat) : Int) == (0 : Int))
   (forkB (y4.2.2.1 == (0 : Int))
    (forkB (((y4.2.1.length : Nat) : Int) == (0 : Int))
     (forkB (y5.2.2.1 == (7 : Int))
      (forkB (y6.2.2.1 == (2 : Int))
       (forkB (y7.2.2.1 == (0 : Int))
        (forkB (((y7.2.1.length : Nat) : Int) == (1025 : Int))
         (if 0 ≤ (1024 : Int) ∧ (1024 : Int) < ((y7.2.1.length : Nat) : Int) then (forkB ((y7.2.1.getD 1024 (0 : Int)) == (98 : Int))
          (obind (kitSameInts BIG y3.2.1 ([(7 : Int)] : List Int)) fun y8 =>
           forkB y8
           (obind (chunkBoardOpen_g1 BIG y7.1.2.1) fun y9 =>
            some (((y9.2.1.length : Nat) : Int) == (0 : Int)))
           (some false))
          (some false)) else none)
         (some false))
        (some false))
       (some false))
      (some false))
     (some false))
    (some false))
   (some false))
  (some false)) else none := by kernel_rfl
noncomputable def law20_awake_sp : FnSpec TT := ⟨[], [.val (.bool)], fun _ => law20_awake BIG ⟩
theorem law20_awake_ok : FnOk TT Try.prog 8 law20_awake_sp := fnOk_of (C := law20_awake_C) (by kernel_rfl) law20_awake_env Try.func8 (show Try.f8.body = some (bodyOf Try.f8) by kernel_rfl) (by kernel_rfl) (by kernel_rfl) (cuts := law20_awake_cuts) fun x y h => ⟨BIG, h⟩
end Go.X

/- The law ChunkNil. -/
namespace Go.X
open Go.RowKit Go.V Go.Proofs
noncomputable def chunkBoard_known_g2_C : Ctx TT := ⟨tyOf, [], 0, [], layOf, drOf, pmOf⟩
theorem chunkBoard_known_g2_env : EnvOk TT Try.prog chunkBoard_known_g2_C.E := envNil
def chunkBoard_known_g2_cuts : List (Pos × Cut) := []
noncomputable def chunkBoard_known_g2 (n : Nat)  : Option ((Unit) × (Bool × Unit)) := topG TT Try.prog chunkBoard_known_g2_C chunkBoard_known_g2_cuts Try.f13 (bodyOf Try.f13) ⟨[], [], [], [], []⟩ [.nilp] [] [.val (.bool)] n ((), ())
theorem chunkBoard_known_g2_eq (n : Nat)  : chunkBoard_known_g2 n  =
  some ((), (false, ())) := by kernel_rfl
noncomputable def chunkBoard_known_g2_sp : GSpec TT := ⟨[.nilp], [], [.val (.bool)], fun _ => chunkBoard_known_g2 BIG ⟩
theorem chunkBoard_known_g2_ok : GOk TT Try.prog 13 chunkBoard_known_g2_sp := gOk_of (C := chunkBoard_known_g2_C) (cuts := chunkBoard_known_g2_cuts) (by kernel_rfl) chunkBoard_known_g2_env Try.func13 (show Try.f13.body = some (bodyOf Try.f13) by kernel_rfl) (by kernel_rfl) (by kernel_rfl) (by kernel_rfl) fun x y h => ⟨BIG, h⟩
noncomputable def chunkBoardPut_g3_C : Ctx TT := ⟨tyOf, [(13, chunkBoard_known_g2_sp.toCall (chunkBoard_known_g1_sp.toCall (noCall TT))), (14, chunk_right_sp.toCall)], 0, [], layOf, drOf, pmOf⟩
theorem chunkBoardPut_g3_env : EnvOk TT Try.prog chunkBoardPut_g3_C.E := envG (gCall_ok chunkBoard_known_g2_ok (gCall_ok chunkBoard_known_g1_ok (noCall_ok 13))) (envG (fnCall_ok chunk_right_ok) (envNil))
def chunkBoardPut_g3_cuts : List (Pos × Cut) := []
noncomputable def chunkBoardPut_g3 (n : Nat) (x0 : Int) (x1 : Int) (x2 : Int) (x3 : List Int) : Option ((Unit) × (Unit × Int × Unit)) := topG TT Try.prog chunkBoardPut_g3_C chunkBoardPut_g3_cuts Try.f5 (bodyOf Try.f5) ⟨[], [], [(0, 0, 4000000001, .bool)], [], []⟩ [.nilp, .val (.int .i64), .val (.int .i64), .val (.int .i64), .val (.list (.int .u8))] [] [.nils, .val (.int .i64)] n ((), x0, x1, x2, x3, ())
theorem chunkBoardPut_g3_eq (n : Nat) (x0 : Int) (x1 : Int) (x2 : Int) (x3 : List Int) : chunkBoardPut_g3 n x0 x1 x2 x3 =
  obind (chunkBoard_known_g2 BIG ) fun y1 =>
  forkB (!y1.2.1)
  (some ((), ((), (1 : Int), ())))
  (obind (chunk_right BIG x0 x1 x2 x3) fun y2 =>
   forkB (!y2)
   (some ((), ((), (2 : Int), ())))
   (none)) := by kernel_rfl
noncomputable def chunkBoardPut_g3_sp : GSpec TT := ⟨[.nilp, .val (.int .i64), .val (.int .i64), .val (.int .i64), .val (.list (.int .u8))], [], [.nils, .val (.int .i64)], fun x => chunkBoardPut_g3 BIG x.2.1 x.2.2.1 x.2.2.2.1 x.2.2.2.2.1⟩
theorem chunkBoardPut_g3_ok : GOk TT Try.prog 5 chunkBoardPut_g3_sp := gOk_of (C := chunkBoardPut_g3_C) (cuts := chunkBoardPut_g3_cuts) (by kernel_rfl) chunkBoardPut_g3_env Try.func5 (show Try.f5.body = some (bodyOf Try.f5) by kernel_rfl) (by kernel_rfl) (by kernel_rfl) (by kernel_rfl) fun x y h => ⟨BIG, h⟩
noncomputable def chunkBoardOpen_g2_C : Ctx TT := ⟨tyOf, [(13, chunkBoard_known_g2_sp.toCall (chunkBoard_known_g1_sp.toCall (noCall TT)))], 0, [], layOf, drOf, pmOf⟩
theorem chunkBoardOpen_g2_env : EnvOk TT Try.prog chunkBoardOpen_g2_C.E := envG (gCall_ok chunkBoard_known_g2_ok (gCall_ok chunkBoard_known_g1_ok (noCall_ok 13))) (envNil)
def chunkBoardOpen_g2_cuts : List (Pos × Cut) := []
noncomputable def chunkBoardOpen_g2 (n : Nat)  : Option ((Unit) × (Unit × Unit)) := topG TT Try.prog chunkBoardOpen_g2_C chunkBoardOpen_g2_cuts Try.f6 (bodyOf Try.f6) ⟨[], [], [], [], []⟩ [.nilp] [] [.nils] n ((), ())
theorem chunkBoardOpen_g2_eq (n : Nat)  : chunkBoardOpen_g2 n  =
  obind (chunkBoard_known_g2 BIG ) fun y1 =>
  forkB (!y1.2.1)
  (some ((), ((), ())))
  (none) := by kernel_rfl
noncomputable def chunkBoardOpen_g2_sp : GSpec TT := ⟨[.nilp], [], [.nils], fun _ => chunkBoardOpen_g2 BIG ⟩
theorem chunkBoardOpen_g2_ok : GOk TT Try.prog 6 chunkBoardOpen_g2_sp := gOk_of (C := chunkBoardOpen_g2_C) (cuts := chunkBoardOpen_g2_cuts) (by kernel_rfl) chunkBoardOpen_g2_env Try.func6 (show Try.f6.body = some (bodyOf Try.f6) by kernel_rfl) (by kernel_rfl) (by kernel_rfl) (by kernel_rfl) fun x y h => ⟨BIG, h⟩
noncomputable def chunkBoardDrop_g1_C : Ctx TT := ⟨tyOf, [(13, chunkBoard_known_g2_sp.toCall (chunkBoard_known_g1_sp.toCall (noCall TT)))], 0, [], layOf, drOf, pmOf⟩
theorem chunkBoardDrop_g1_env : EnvOk TT Try.prog chunkBoardDrop_g1_C.E := envG (gCall_ok chunkBoard_known_g2_ok (gCall_ok chunkBoard_known_g1_ok (noCall_ok 13))) (envNil)
def chunkBoardDrop_g1_cuts : List (Pos × Cut) := []
noncomputable def chunkBoardDrop_g1 (n : Nat) (x0 : Int) : Option ((Unit) × (Int × Unit)) := topG TT Try.prog chunkBoardDrop_g1_C chunkBoardDrop_g1_cuts Try.f7 (bodyOf Try.f7) ⟨[], [], [(0, 0, 4000000001, .bool)], [], []⟩ [.nilp, .val (.int .i64)] [] [.val (.int .i64)] n ((), x0, ())
theorem chunkBoardDrop_g1_eq (n : Nat) (x0 : Int) : chunkBoardDrop_g1 n x0 =
  obind (chunkBoard_known_g2 BIG ) fun y1 =>
  forkB (!y1.2.1)
  (some ((), ((1 : Int), ())))
  (none) := by kernel_rfl
noncomputable def chunkBoardDrop_g1_sp : GSpec TT := ⟨[.nilp, .val (.int .i64)], [], [.val (.int .i64)], fun x => chunkBoardDrop_g1 BIG x.2.1⟩
theorem chunkBoardDrop_g1_ok : GOk TT Try.prog 7 chunkBoardDrop_g1_sp := gOk_of (C := chunkBoardDrop_g1_C) (cuts := chunkBoardDrop_g1_cuts) (by kernel_rfl) chunkBoardDrop_g1_env Try.func7 (show Try.f7.body = some (bodyOf Try.f7) by kernel_rfl) (by kernel_rfl) (by kernel_rfl) (by kernel_rfl) fun x y h => ⟨BIG, h⟩
noncomputable def chunkBoard_known_g3_C : Ctx TT := ⟨tyOf, [], 1, [], layOf, drOf, pmOf⟩
theorem chunkBoard_known_g3_env : EnvOk TT Try.prog chunkBoard_known_g3_C.E := envNil
def chunkBoard_known_g3_cuts : List (Pos × Cut) := []
noncomputable def chunkBoard_known_g3 (n : Nat)  : Option (((Unit × Unit) × Unit) × (Bool × Unit)) := topG TT Try.prog chunkBoard_known_g3_C chunkBoard_known_g3_cuts Try.f13 (bodyOf Try.f13) ⟨[], [], [], [], []⟩ [.ptr 0 28 [.rw 2]] [.blk 28 [.rw 2]] [.val (.bool)] n (((), ()), ())
theorem chunkBoard_known_g3_eq (n : Nat)  : chunkBoard_known_g3 n  =
  some ((((), ()), ()), (false, ())) := by kernel_rfl
noncomputable def chunkBoard_known_g3_sp : GSpec TT := ⟨[.ptr 0 28 [.rw 2]], [.blk 28 [.rw 2]], [.val (.bool)], fun _ => chunkBoard_known_g3 BIG ⟩
theorem chunkBoard_known_g3_ok : GOk TT Try.prog 13 chunkBoard_known_g3_sp := gOk_of (C := chunkBoard_known_g3_C) (cuts := chunkBoard_known_g3_cuts) (by kernel_rfl) chunkBoard_known_g3_env Try.func13 (show Try.f13.body = some (bodyOf Try.f13) by kernel_rfl) (by kernel_rfl) (by kernel_rfl) (by kernel_rfl) fun x y h => ⟨BIG, h⟩
noncomputable def chunkBoardPut_g4_C : Ctx TT := ⟨tyOf, [(13, chunkBoard_known_g3_sp.toCall (chunkBoard_known_g2_sp.toCall (chunkBoard_known_g1_sp.toCall (noCall TT)))), (14, chunk_right_sp.toCall)], 1, [], layOf, drOf, pmOf⟩
theorem chunkBoardPut_g4_env : EnvOk TT Try.prog chunkBoardPut_g4_C.E := envG (gCall_ok chunkBoard_known_g3_ok (gCall_ok chunkBoard_known_g2_ok (gCall_ok chunkBoard_known_g1_ok (noCall_ok 13)))) (envG (fnCall_ok chunk_right_ok) (envNil))
def chunkBoardPut_g4_cuts : List (Pos × Cut) := []
noncomputable def chunkBoardPut_g4 (n : Nat) (x0 : Int) (x1 : Int) (x2 : Int) (x3 : List Int) : Option (((Unit × Unit) × Unit) × (Unit × Int × Unit)) := topG TT Try.prog chunkBoardPut_g4_C chunkBoardPut_g4_cuts Try.f5 (bodyOf Try.f5) ⟨[], [], [(0, 0, 4000000001, .bool)], [], []⟩ [.ptr 0 28 [.rw 2], .val (.int .i64), .val (.int .i64), .val (.int .i64), .val (.list (.int .u8))] [.blk 28 [.rw 2]] [.nils, .val (.int .i64)] n (((), ()), x0, x1, x2, x3, ())
theorem chunkBoardPut_g4_eq (n : Nat) (x0 : Int) (x1 : Int) (x2 : Int) (x3 : List Int) : chunkBoardPut_g4 n x0 x1 x2 x3 =
  obind (chunkBoard_known_g3 BIG ) fun y1 =>
  forkB (!y1.2.1)
  (some ((((), ()), ()), ((), (1 : Int), ())))
  (obind (chunk_right BIG x0 x1 x2 x3) fun y2 =>
   forkB (!y2)
   (some ((((), ()), ()), ((), (2 : Int), ())))
   (none)) := by kernel_rfl
noncomputable def chunkBoardPut_g4_sp : GSpec TT := ⟨[.ptr 0 28 [.rw 2], .val (.int .i64), .val (.int .i64), .val (.int .i64), .val (.list (.int .u8))], [.blk 28 [.rw 2]], [.nils, .val (.int .i64)], fun x => chunkBoardPut_g4 BIG x.2.1 x.2.2.1 x.2.2.2.1 x.2.2.2.2.1⟩
theorem chunkBoardPut_g4_ok : GOk TT Try.prog 5 chunkBoardPut_g4_sp := gOk_of (C := chunkBoardPut_g4_C) (cuts := chunkBoardPut_g4_cuts) (by kernel_rfl) chunkBoardPut_g4_env Try.func5 (show Try.f5.body = some (bodyOf Try.f5) by kernel_rfl) (by kernel_rfl) (by kernel_rfl) (by kernel_rfl) fun x y h => ⟨BIG, h⟩
noncomputable def mapsKeys_g2_C : Ctx TT := ⟨tyOf, [], 0, [], layOf, drOf, pmOf⟩
def mapsKeys_g2_cuts : List (Pos × Cut) := []
noncomputable def mapsKeys_g2 (n : Nat)  : Option ((Unit) × (((Unit) × ((Unit × Unit) × Unit)) × Unit)) := topG TT Try.prog mapsKeys_g2_C mapsKeys_g2_cuts Try.f24 (bodyOf Try.f24) ⟨[], [], [], [], []⟩ [.rw 2] [] [.fn 30 [] [.ptr 0 24 [.rw 2]]] n ((), ())
noncomputable def mapsKeys_g2_sp : GSpec TT := ⟨[.rw 2], [], [.fn 30 [] [.ptr 0 24 [.rw 2]]], fun _ => mapsKeys_g2 BIG ⟩
noncomputable def chunkBoardOpen_g3_C : Ctx TT := ⟨tyOf, [(13, chunkBoard_known_g3_sp.toCall (chunkBoard_known_g2_sp.toCall (chunkBoard_known_g1_sp.toCall (noCall TT))))], 1, [], layOf, drOf, pmOf⟩
theorem chunkBoardOpen_g3_env : EnvOk TT Try.prog chunkBoardOpen_g3_C.E := envG (gCall_ok chunkBoard_known_g3_ok (gCall_ok chunkBoard_known_g2_ok (gCall_ok chunkBoard_known_g1_ok (noCall_ok 13)))) (envNil)
def chunkBoardOpen_g3_cuts : List (Pos × Cut) := []
noncomputable def chunkBoardOpen_g3 (n : Nat)  : Option (((Unit × Unit) × Unit) × (Unit × Unit)) := topG TT Try.prog chunkBoardOpen_g3_C chunkBoardOpen_g3_cuts Try.f6 (bodyOf Try.f6) ⟨[], [], [], [], []⟩ [.ptr 0 28 [.rw 2]] [.blk 28 [.rw 2]] [.nils] n (((), ()), ())
theorem chunkBoardOpen_g3_eq (n : Nat)  : chunkBoardOpen_g3 n  =
  obind (chunkBoard_known_g3 BIG ) fun y1 =>
  forkB (!y1.2.1)
  (some ((((), ()), ()), ((), ())))
  (none) := by kernel_rfl
noncomputable def chunkBoardOpen_g3_sp : GSpec TT := ⟨[.ptr 0 28 [.rw 2]], [.blk 28 [.rw 2]], [.nils], fun _ => chunkBoardOpen_g3 BIG ⟩
theorem chunkBoardOpen_g3_ok : GOk TT Try.prog 6 chunkBoardOpen_g3_sp := gOk_of (C := chunkBoardOpen_g3_C) (cuts := chunkBoardOpen_g3_cuts) (by kernel_rfl) chunkBoardOpen_g3_env Try.func6 (show Try.f6.body = some (bodyOf Try.f6) by kernel_rfl) (by kernel_rfl) (by kernel_rfl) (by kernel_rfl) fun x y h => ⟨BIG, h⟩
noncomputable def chunkBoardDrop_g2_C : Ctx TT := ⟨tyOf, [(13, chunkBoard_known_g3_sp.toCall (chunkBoard_known_g2_sp.toCall (chunkBoard_known_g1_sp.toCall (noCall TT))))], 1, [], layOf, drOf, pmOf⟩
theorem chunkBoardDrop_g2_env : EnvOk TT Try.prog chunkBoardDrop_g2_C.E := envG (gCall_ok chunkBoard_known_g3_ok (gCall_ok chunkBoard_known_g2_ok (gCall_ok chunkBoard_known_g1_ok (noCall_ok 13)))) (envNil)
def chunkBoardDrop_g2_cuts : List (Pos × Cut) := []
noncomputable def chunkBoardDrop_g2 (n : Nat) (x0 : Int) : Option (((Unit × Unit) × Unit) × (Int × Unit)) := topG TT Try.prog chunkBoardDrop_g2_C chunkBoardDrop_g2_cuts Try.f7 (bodyOf Try.f7) ⟨[], [], [(0, 0, 4000000001, .bool)], [], []⟩ [.ptr 0 28 [.rw 2], .val (.int .i64)] [.blk 28 [.rw 2]] [.val (.int .i64)] n (((), ()), x0, ())
theorem chunkBoardDrop_g2_eq (n : Nat) (x0 : Int) : chunkBoardDrop_g2 n x0 =
  obind (chunkBoard_known_g3 BIG ) fun y1 =>
  forkB (!y1.2.1)
  (some ((((), ()), ()), ((1 : Int), ())))
  (none) := by kernel_rfl
noncomputable def chunkBoardDrop_g2_sp : GSpec TT := ⟨[.ptr 0 28 [.rw 2], .val (.int .i64)], [.blk 28 [.rw 2]], [.val (.int .i64)], fun x => chunkBoardDrop_g2 BIG x.2.1⟩
theorem chunkBoardDrop_g2_ok : GOk TT Try.prog 7 chunkBoardDrop_g2_sp := gOk_of (C := chunkBoardDrop_g2_C) (cuts := chunkBoardDrop_g2_cuts) (by kernel_rfl) chunkBoardDrop_g2_env Try.func7 (show Try.f7.body = some (bodyOf Try.f7) by kernel_rfl) (by kernel_rfl) (by kernel_rfl) (by kernel_rfl) fun x y h => ⟨BIG, h⟩
noncomputable def law20ChunkNil_C : Ctx TT := ⟨tyOf, [(5, chunkBoardPut_g4_sp.toCall (chunkBoardPut_g3_sp.toCall (chunkBoardPut_g2_sp.toCall (chunkBoardPut_g1_sp.toCall (noCall TT))))), (6, chunkBoardOpen_g3_sp.toCall (chunkBoardOpen_g2_sp.toCall (chunkBoardOpen_g1_sp.toCall (noCall TT)))), (7, chunkBoardDrop_g2_sp.toCall (chunkBoardDrop_g1_sp.toCall (noCall TT))), (8, law20_awake_sp.toCall)], 0, [], layOf, drOf, pmOf⟩
theorem law20ChunkNil_env : EnvOk TT Try.prog law20ChunkNil_C.E := envG (gCall_ok chunkBoardPut_g4_ok (gCall_ok chunkBoardPut_g3_ok (gCall_ok chunkBoardPut_g2_ok (gCall_ok chunkBoardPut_g1_ok (noCall_ok 5))))) (envG (gCall_ok chunkBoardOpen_g3_ok (gCall_ok chunkBoardOpen_g2_ok (gCall_ok chunkBoardOpen_g1_ok (noCall_ok 6)))) (envG (gCall_ok chunkBoardDrop_g2_ok (gCall_ok chunkBoardDrop_g1_ok (noCall_ok 7))) (envG (fnCall_ok law20_awake_ok) (envNil))))
def law20ChunkNil_cuts : List (Pos × Cut) := [([false, true, false, true, true], ⟨[0, 1, 5, 6], [], true, [], 0, false⟩), ([true, false, false, true, false, false, true, false, true, true], ⟨[0, 1, 5, 6, 50], [], false, [], 0, false⟩)]
noncomputable def law20ChunkNil (n : Nat) (x0 : Int) (x1 : List Int) : Option (Bool) := topF TT Try.prog law20ChunkNil_C law20ChunkNil_cuts Try.f3 (bodyOf Try.f3) ⟨[], []⟩ [.val (.int .i64), .val (.list (.int .u8))] [.val (.bool)] n (x0, x1)
noncomputable def law20ChunkNil_J1 (n : Nat) (s0 : Int) (s1 : List Int) (s50 : Bool) : Option (Bool) := cutF TT Try.prog law20ChunkNil_C law20ChunkNil_cuts Try.f3 (bodyOf Try.f3) ⟨[], []⟩ [.val (.int .i64), .val (.list (.int .u8))] [.val (.bool)] n [true, false, false, true, false, false, true, false, true, true] ⟨[(0, .cell ⟨.int .i64, s0⟩), (1, .cell ⟨.list (.int .u8), s1⟩), (5, .sl 0 1 0 2), (6, .cell ⟨.int .i64, (0 : Int)⟩), (50, .cell ⟨.bool, s50⟩)], [.blk 23 [.raw (.pointer none), .ptr 1 0], .blk 28 [.raw (rawV 2)]]⟩
noncomputable def law20ChunkNil_J1a (n : Nat) (s0 : Int) (s1 : List Int) (s50 : Bool) : Option (Bool) := cutF TT Try.prog law20ChunkNil_C law20ChunkNil_cuts Try.f3 (bodyOf Try.f3) ⟨[], []⟩ [.val (.int .i64), .val (.list (.int .u8))] [.val (.bool)] n [true, false, false, true, false, false, true, false, true, true] ⟨[(0, .cell ⟨.int .i64, s0⟩), (1, .cell ⟨.list (.int .u8), s1⟩), (5, .sl 0 1 0 2), (6, .cell ⟨.int .i64, (1 : Int)⟩), (50, .cell ⟨.bool, s50⟩)], [.blk 23 [.raw (.pointer none), .ptr 1 0], .blk 28 [.raw (rawV 2)]]⟩
theorem law20ChunkNil_eq (n : Nat) (x0 : Int) (x1 : List Int) : law20ChunkNil (n + 1) x0 x1 =
  obind (chunkBoardPut_g3 BIG x0 (0 : Int) (1 : Int) x1) fun y1 =>
  forkB (y1.2.2.1 != (1 : Int))
  (law20ChunkNil_J1 n x0 x1 true)
  (obind (chunkBoardOpen_g2 BIG ) fun y2 =>
   obind (chunkBoardDrop_g1 BIG x0) fun y3 =>
   law20ChunkNil_J1 n x0 x1 (y3.2.1 != (1 : Int))) := by kernel_rfl
theorem law20ChunkNil_J1_eq (n : Nat) (s0 : Int) (s1 : List Int) (s50 : Bool) : law20ChunkNil_J1 (n + 2) s0 s1 s50 =
  forkB s50
  (some false)
  (obind (chunkBoardPut_g4 BIG s0 (0 : Int) (1 : Int) s1) fun y1 =>
   forkB (y1.2.2.1 != (1 : Int))
   (law20ChunkNil_J1a n s0 s1 true)
   (obind (chunkBoardOpen_g3 BIG ) fun y2 =>
    obind (chunkBoardDrop_g2 BIG s0) fun y3 =>
    law20ChunkNil_J1a n s0 s1 (y3.2.1 != (1 : Int)))) := by kernel_rfl
theorem law20ChunkNil_J1a_eq (n : Nat) (s0 : Int) (s1 : List Int) (s50 : Bool) : law20ChunkNil_J1a (n + 2) s0 s1 s50 =
  forkB s50
  (some false)
  (obind (law20_awake BIG ) fun y1 =>
   some y1) := by kernel_rfl
noncomputable def law20ChunkNil_sp : FnSpec TT := ⟨[.val (.int .i64), .val (.list (.int .u8))], [.val (.bool)], fun x => law20ChunkNil BIG x.1 x.2⟩
theorem law20ChunkNil_ok : FnOk TT Try.prog 3 law20ChunkNil_sp := fnOk_of (C := law20ChunkNil_C) (by kernel_rfl) law20ChunkNil_env Try.func3 (show Try.f3.body = some (bodyOf Try.f3) by kernel_rfl) (by kernel_rfl) (by kernel_rfl) (cuts := law20ChunkNil_cuts) fun x y h => ⟨BIG, h⟩
end Go.X
