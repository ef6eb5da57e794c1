/- Texts put together. -/
import Derived.Test.YtjjlcenmifcaeaaIh
/- Boards. -/
namespace Go.X
open Go.RowKit Go.V Go.Proofs
noncomputable def chunkNew_g1_C : Ctx TT := ⟨tyOf, [], 0, [], layOf, drOf, pmOf⟩
theorem chunkNew_g1_env : EnvOk TT Try.prog chunkNew_g1_C.E := envNil
def chunkNew_g1_cuts : List (Pos × Cut) := []
noncomputable def chunkNew_g1 (n : Nat)  : Option ((Unit) × (((List (Int × Upload)) × Unit) × Unit)) := topG TT Try.prog chunkNew_g1_C chunkNew_g1_cuts Try.f11 (bodyOf Try.f11) ⟨[], [], [], [], []⟩ [] [] [.ptr 0 28 [.pm .i64 49 0]] n ()
theorem chunkNew_g1_eq (n : Nat)  : chunkNew_g1 n  =
  some ((), ((([] : List (Int × Upload)), ()), ())) := by kernel_rfl
noncomputable def chunkNew_g1_sp : GSpec TT := ⟨[], [], [.ptr 0 28 [.pm .i64 49 0]], fun _ => chunkNew_g1 BIG ⟩
theorem chunkNew_g1_ok : GOk TT Try.prog 11 chunkNew_g1_sp := gOk_of (C := chunkNew_g1_C) (cuts := chunkNew_g1_cuts) (by kernel_rfl) chunkNew_g1_env Try.func11 (show Try.f11.body = some (bodyOf Try.f11) by kernel_rfl) (by kernel_rfl) (by kernel_rfl) (by kernel_rfl) fun x y h => ⟨BIG, h⟩
noncomputable def chunkBoard_known_g1_C : Ctx TT := ⟨tyOf, [], 2, [], layOf, drOf, pmOf⟩
theorem chunkBoard_known_g1_env : EnvOk TT Try.prog chunkBoard_known_g1_C.E := envNil
def chunkBoard_known_g1_cuts : List (Pos × Cut) := []
noncomputable def chunkBoard_known_g1 (n : Nat) (x0 : List (Int × Upload)) : Option (((Unit × Unit) × (List (Int × Upload)) × Unit) × (Bool × Unit)) := topG TT Try.prog chunkBoard_known_g1_C chunkBoard_known_g1_cuts Try.f13 (bodyOf Try.f13) ⟨[], [], [], [], []⟩ [.ptr 0 28 [.pm .i64 49 0]] [.blk 28 [.mpo 1], .pm .i64 49 0] [.val (.bool)] n ((x0, ()), ())
theorem chunkBoard_known_g1_eq (n : Nat) (x0 : List (Int × Upload)) : chunkBoard_known_g1 n x0 =
  some ((((), ()), x0, ()), (true, ())) := by kernel_rfl
noncomputable def chunkBoard_known_g1_sp : GSpec TT := ⟨[.ptr 0 28 [.pm .i64 49 0]], [.blk 28 [.mpo 1], .pm .i64 49 0], [.val (.bool)], fun x => chunkBoard_known_g1 BIG x.1.1⟩
theorem chunkBoard_known_g1_ok : GOk TT Try.prog 13 chunkBoard_known_g1_sp := gOk_of (C := chunkBoard_known_g1_C) (cuts := chunkBoard_known_g1_cuts) (by kernel_rfl) chunkBoard_known_g1_env Try.func13 (show Try.f13.body = some (bodyOf Try.f13) by kernel_rfl) (by kernel_rfl) (by kernel_rfl) (by kernel_rfl) fun x y h => ⟨BIG, h⟩
noncomputable def chunk_right_C : Ctx TT := ⟨tyOf, [], 0, [], layOf, drOf, pmOf⟩
theorem chunk_right_env : EnvOk TT Try.prog chunk_right_C.E := envNil
def chunk_right_cuts : List (Pos × Cut) := [([false, false, true, true], ⟨[1, 2, 9, 12], [], false, [], 0, false⟩), ([true, true, false, false, true, true], ⟨[1, 2, 9, 27], [], false, [], 0, false⟩)]
noncomputable def chunk_right (n : Nat) (x0 : Int) (x1 : Int) (x2 : Int) (x3 : List Int) : Option (Bool) := topF TT Try.prog chunk_right_C chunk_right_cuts Try.f14 (bodyOf Try.f14) ⟨[], []⟩ [.val (.int .i64), .val (.int .i64), .val (.int .i64), .val (.list (.int .u8))] [.val (.bool)] n (x0, x1, x2, x3)
noncomputable def chunk_right_J0 (n : Nat) (s1 : Int) (s2 : Int) (s9 : Int) (s12 : Bool) : Option (Bool) := cutF TT Try.prog chunk_right_C chunk_right_cuts Try.f14 (bodyOf Try.f14) ⟨[], []⟩ [.val (.int .i64), .val (.int .i64), .val (.int .i64), .val (.list (.int .u8))] [.val (.bool)] n [false, false, true, true] ⟨[(1, .cell ⟨.int .i64, s1⟩), (2, .cell ⟨.int .i64, s2⟩), (9, .cell ⟨.int .i64, s9⟩), (12, .cell ⟨.bool, s12⟩)], []⟩
noncomputable def chunk_right_J1 (n : Nat) (s1 : Int) (s2 : Int) (s9 : Int) (s27 : Bool) : Option (Bool) := cutF TT Try.prog chunk_right_C chunk_right_cuts Try.f14 (bodyOf Try.f14) ⟨[], []⟩ [.val (.int .i64), .val (.int .i64), .val (.int .i64), .val (.list (.int .u8))] [.val (.bool)] n [true, true, false, false, true, true] ⟨[(1, .cell ⟨.int .i64, s1⟩), (2, .cell ⟨.int .i64, s2⟩), (9, .cell ⟨.int .i64, s9⟩), (27, .cell ⟨.bool, s27⟩)], []⟩
theorem chunk_right_eq (n : Nat) (x0 : Int) (x1 : Int) (x2 : Int) (x3 : List Int) : chunk_right n x0 x1 x2 x3 =
  forkB (decide (x0 < (1 : Int)))
  (chunk_right_J0 n x1 x2 ((x3.length : Nat) : Int) true)
  (forkB (decide (x0 > (1073741824 : Int)))
   (chunk_right_J0 n x1 x2 ((x3.length : Nat) : Int) true)
   (forkB (decide (x2 < (1 : Int)))
    (chunk_right_J0 n x1 x2 ((x3.length : Nat) : Int) true)
    (chunk_right_J0 n x1 x2 ((x3.length : Nat) : Int) (decide (x2 > (40 : Int)))))) := by kernel_rfl
theorem chunk_right_J0_eq (n : Nat) (s1 : Int) (s2 : Int) (s9 : Int) (s12 : Bool) : chunk_right_J0 (n + 1) s1 s2 s9 s12 =
  forkB s12
  (some false)
  (forkB (decide (s1 < (0 : Int)))
   (chunk_right_J1 n s1 s2 s9 true)
   (forkB (decide (s1 ≥ s2))
    (chunk_right_J1 n s1 s2 s9 true)
    (forkB (decide (s9 < (1 : Int)))
     (chunk_right_J1 n s1 s2 s9 true)
     (chunk_right_J1 n s1 s2 s9 (decide (s9 > (1024 : Int))))))) := by kernel_rfl
theorem chunk_right_J1_eq (n : Nat) (s1 : Int) (s2 : Int) (s9 : Int) (s27 : Bool) : chunk_right_J1 (n + 1) s1 s2 s9 s27 =
  forkB s27
  (some false)
  (forkB (s9 == (1024 : Int))
   (some true)
   (some (s1 == (IntKind.i64.wrap (s2 - (1 : Int)))))) := by kernel_rfl
noncomputable def chunk_right_sp : FnSpec TT := ⟨[.val (.int .i64), .val (.int .i64), .val (.int .i64), .val (.list (.int .u8))], [.val (.bool)], fun x => chunk_right BIG x.1 x.2.1 x.2.2.1 x.2.2.2⟩
theorem chunk_right_ok : FnOk TT Try.prog 14 chunk_right_sp := fnOk_of (C := chunk_right_C) (by kernel_rfl) chunk_right_env Try.func14 (show Try.f14.body = some (bodyOf Try.f14) by kernel_rfl) (by kernel_rfl) (by kernel_rfl) (cuts := chunk_right_cuts) fun x y h => ⟨BIG, h⟩
noncomputable def bytesClone_C : Ctx TT := ⟨tyOf, [], 0, [], layOf, drOf, pmOf⟩
theorem bytesClone_env : EnvOk TT Try.prog bytesClone_C.E := envNil
def bytesClone_cuts : List (Pos × Cut) := []
noncomputable def bytesClone (n : Nat) (x0 : List Int) : Option (List Int) := topF TT Try.prog bytesClone_C bytesClone_cuts Try.f16 (bodyOf Try.f16) ⟨[], []⟩ [.val (.list (.int .u8))] [.own 5 (.int .u8)] n x0
theorem bytesClone_eq (n : Nat) (x0 : List Int) : bytesClone n x0 =
  nilF x0.isEmpty
  (some ([] : List Int))
  (if (0 + x0.length) * 1 ≤ 140737488355328 then (some (([] : List Int) ++ x0)) else none) := by kernel_rfl
noncomputable def bytesClone_sp : FnSpec TT := ⟨[.val (.list (.int .u8))], [.own 5 (.int .u8)], fun x => bytesClone BIG x⟩
theorem bytesClone_ok : FnOk TT Try.prog 16 bytesClone_sp := fnOk_of (C := bytesClone_C) (by kernel_rfl) bytesClone_env Try.func16 (show Try.f16.body = some (bodyOf Try.f16) by kernel_rfl) (by kernel_rfl) (by kernel_rfl) (cuts := bytesClone_cuts) fun x y h => ⟨BIG, h⟩
noncomputable def chunk_upload_missing_g1_C : Ctx TT := ⟨tyOf, [], 1, [], layOf, drOf, pmOf⟩
theorem chunk_upload_missing_g1_env : EnvOk TT Try.prog chunk_upload_missing_g1_C.E := envNil
def chunk_upload_missing_g1_cuts : List (Pos × Cut) := []
noncomputable def chunk_upload_missing_g1 (n : Nat) (x0 : List (List Int)) (x1 : Int) : Option (((List (List Int) × Int × Unit) × Unit) × (((Unit) × ((Unit × Unit) × Unit)) × Unit)) := topG TT Try.prog chunk_upload_missing_g1_C chunk_upload_missing_g1_cuts Try.f21 (bodyOf Try.f21) ⟨[], [], [], [], []⟩ [.ptr 0 49 [.arr (.nl (.int .u8)) 40, .val (.int .i64)]] [.blk 49 [.arr (.nl (.int .u8)) 40, .val (.int .i64)]] [.fn 26 [] [.ptr 0 46 [.at_ 0 0]]] n ((x0, x1, ()), ())
theorem chunk_upload_missing_g1_eq (n : Nat) (x0 : List (List Int)) (x1 : Int) : chunk_upload_missing_g1 n x0 x1 =
  some (((x0, x1, ()), ()), (((), (((), ()), ())), ())) := by kernel_rfl
noncomputable def chunk_upload_missing_g1_sp : GSpec TT := ⟨[.ptr 0 49 [.arr (.nl (.int .u8)) 40, .val (.int .i64)]], [.blk 49 [.arr (.nl (.int .u8)) 40, .val (.int .i64)]], [.fn 26 [] [.ptr 0 46 [.at_ 0 0]]], fun x => chunk_upload_missing_g1 BIG x.1.1 x.1.2.1⟩
theorem chunk_upload_missing_g1_ok : GOk TT Try.prog 21 chunk_upload_missing_g1_sp := gOk_of (C := chunk_upload_missing_g1_C) (cuts := chunk_upload_missing_g1_cuts) (by kernel_rfl) chunk_upload_missing_g1_env Try.func21 (show Try.f21.body = some (bodyOf Try.f21) by kernel_rfl) (by kernel_rfl) (by kernel_rfl) (by kernel_rfl) fun x y h => ⟨BIG, h⟩
noncomputable def chunk_upload_done_g1a1_C : Ctx TT := ⟨tyOf, [(21, chunk_upload_missing_g1_sp.toCall (noCall TT)), (22, join_sp.toCall (noCall TT))], 1, [(3, 1)], layOf, drOf, pmOf⟩
theorem chunk_upload_done_g1a1_env : EnvOk TT Try.prog chunk_upload_done_g1a1_C.E := envG (gCall_ok chunk_upload_missing_g1_ok (noCall_ok 21)) (envG (gCall_ok join_ok (noCall_ok 22)) (envNil))
noncomputable def chunk_upload_done_g1a1_RU : RuP TT := ⟨1, 1, 26, .inr itMiss, [4, 0, 2], [], none⟩
noncomputable def chunk_upload_done_g1a1 (x0 : List (List Int)) (x1 : Int) : Option (((List (List Int) × Int × Unit) × Unit) × (Unit × Unit)) := topU TT Try.prog chunk_upload_done_g1a1_C Try.f17 (bodyOf Try.f17) ⟨[], [], [], [], []⟩ [.ptr 0 49 [.arr (.nl (.int .u8)) 40, .val (.int .i64)]] [.blk 49 [.arr (.nl (.int .u8)) 40, .val (.int .i64)]] [.nils] chunk_upload_done_g1a1_RU ((x0, x1, ()), ())
theorem chunk_upload_done_g1a1_eq (x0 : List (List Int)) (x1 : Int) : chunk_upload_done_g1a1 x0 x1 =
  obind (chunk_upload_missing_g1 BIG x0 x1) fun y1 =>
  if missOk y1.1.1.2.1 = true then (forkB (missing y1.1.1.1 y1.1.1.2.1)
  (some (((y1.1.1.1, y1.1.1.2.1, ()), ()), ((), ())))
  (if 0 ≤ (0 : Int) ∧ (0 : Int) ≤ y1.1.1.2.1 ∧ y1.1.1.2.1 ≤ ((40 : Nat) : Int) then (obind (joinG y1.1.1.1 y1.1.1.2.1 0 (y1.1.1.2.1.toNat - 0)) fun y2 =>
   none) else none)) else none := by kernel_rfl
noncomputable def chunk_upload_done_g1a1_sp : GSpec TT := ⟨[.ptr 0 49 [.arr (.nl (.int .u8)) 40, .val (.int .i64)]], [.blk 49 [.arr (.nl (.int .u8)) 40, .val (.int .i64)]], [.nils], fun x => chunk_upload_done_g1a1 x.1.1 x.1.2.1⟩
theorem chunk_upload_done_g1a1_ok : GOk TT Try.prog 17 chunk_upload_done_g1a1_sp := gOkU_of (C := chunk_upload_done_g1a1_C) (D := chunk_upload_done_g1a1_RU) (by kernel_rfl) chunk_upload_done_g1a1_env Try.func17 (show Try.f17.body = some (bodyOf Try.f17) by kernel_rfl) (by kernel_rfl) (by kernel_rfl) (by kernel_rfl) (show RuP.ok Try.prog chunk_upload_done_g1a1_RU from miss_it) fun x y h => h
noncomputable def chunk_upload_done_g1a2_C : Ctx TT := ⟨tyOf, [(21, chunk_upload_missing_g1_sp.toCall (noCall TT)), (22, join_sp.toCall (noCall TT))], 1, [(3, 1)], layOf, drOf, pmOf⟩
theorem chunk_upload_done_g1a2_env : EnvOk TT Try.prog chunk_upload_done_g1a2_C.E := envG (gCall_ok chunk_upload_missing_g1_ok (noCall_ok 21)) (envG (gCall_ok join_ok (noCall_ok 22)) (envNil))
noncomputable def chunk_upload_done_g1a2_RU : RuP TT := ⟨1, 1, 26, .inr itMiss, [4, 0, 2], [], none⟩
noncomputable def chunk_upload_done_g1a2 (x0 : List (List Int)) (x1 : Int) : Option (((List (List Int) × Int × Unit) × Unit) × (List Int × Unit)) := topU TT Try.prog chunk_upload_done_g1a2_C Try.f17 (bodyOf Try.f17) ⟨[], [], [], [], []⟩ [.ptr 0 49 [.arr (.nl (.int .u8)) 40, .val (.int .i64)]] [.blk 49 [.arr (.nl (.int .u8)) 40, .val (.int .i64)]] [.val (.list (.int .u8))] chunk_upload_done_g1a2_RU ((x0, x1, ()), ())
theorem chunk_upload_done_g1a2_eq (x0 : List (List Int)) (x1 : Int) : chunk_upload_done_g1a2 x0 x1 =
  obind (chunk_upload_missing_g1 BIG x0 x1) fun y1 =>
  if missOk y1.1.1.2.1 = true then (forkB (missing y1.1.1.1 y1.1.1.2.1)
  (some (((y1.1.1.1, y1.1.1.2.1, ()), ()), (([] : List Int), ())))
  (if 0 ≤ (0 : Int) ∧ (0 : Int) ≤ y1.1.1.2.1 ∧ y1.1.1.2.1 ≤ ((40 : Nat) : Int) then (obind (joinG y1.1.1.1 y1.1.1.2.1 0 (y1.1.1.2.1.toNat - 0)) fun y2 =>
   some (((y2.1.1.1, y2.1.1.2.1, ()), ()), (y2.2.1, ()))) else none)) else none := by kernel_rfl
noncomputable def chunk_upload_done_g1a2_sp : GSpec TT := ⟨[.ptr 0 49 [.arr (.nl (.int .u8)) 40, .val (.int .i64)]], [.blk 49 [.arr (.nl (.int .u8)) 40, .val (.int .i64)]], [.val (.list (.int .u8))], fun x => chunk_upload_done_g1a2 x.1.1 x.1.2.1⟩
theorem chunk_upload_done_g1a2_ok : GOk TT Try.prog 17 chunk_upload_done_g1a2_sp := gOkU_of (C := chunk_upload_done_g1a2_C) (D := chunk_upload_done_g1a2_RU) (by kernel_rfl) chunk_upload_done_g1a2_env Try.func17 (show Try.f17.body = some (bodyOf Try.f17) by kernel_rfl) (by kernel_rfl) (by kernel_rfl) (by kernel_rfl) (show RuP.ok Try.prog chunk_upload_done_g1a2_RU from miss_it) fun x y h => h
noncomputable def chunk_upload_done_g1_c0 (x0 : List (List Int)) (x1 : Int) : Bool := missing x0 x1
noncomputable def bytesEqual_C : Ctx TT := ⟨tyOf, [], 0, [], layOf, drOf, pmOf⟩
theorem bytesEqual_env : EnvOk TT Try.prog bytesEqual_C.E := envNil
def bytesEqual_cuts : List (Pos × Cut) := []
noncomputable def bytesEqual (n : Nat) (x0 : List Int) (x1 : List Int) : Option (Bool) := topF TT Try.prog bytesEqual_C bytesEqual_cuts Try.f15 (bodyOf Try.f15) ⟨[], []⟩ [.val (.list (.int .u8)), .val (.list (.int .u8))] [.val (.bool)] n (x0, x1)
theorem bytesEqual_eq (n : Nat) (x0 : List Int) (x1 : List Int) : bytesEqual n x0 x1 =
  some (ByteArray.toList (bytesStr x0) == ByteArray.toList (bytesStr x1)) := by kernel_rfl
noncomputable def bytesEqual_sp : FnSpec TT := ⟨[.val (.list (.int .u8)), .val (.list (.int .u8))], [.val (.bool)], fun x => bytesEqual BIG x.1 x.2⟩
theorem bytesEqual_ok : FnOk TT Try.prog 15 bytesEqual_sp := fnOk_of (C := bytesEqual_C) (by kernel_rfl) bytesEqual_env Try.func15 (show Try.f15.body = some (bodyOf Try.f15) by kernel_rfl) (by kernel_rfl) (by kernel_rfl) (cuts := bytesEqual_cuts) fun x y h => ⟨BIG, h⟩
noncomputable def chunkBoardPut_g1_C : Ctx TT := ⟨tyOf, [(13, chunkBoard_known_g1_sp.toCall (noCall TT)), (14, chunk_right_sp.toCall), (16, bytesClone_sp.toCall), (17, (CallSpec.forkS [.ptr 0 49 [.arr (.nl (.int .u8)) 40, .val (.int .i64)]] (fun x => chunk_upload_done_g1_c0 x.1.1 x.1.2.1) (chunk_upload_done_g1a1_sp.toCall (noCall TT)) (chunk_upload_done_g1a2_sp.toCall (noCall TT)))), (15, bytesEqual_sp.toCall)], 2, [(11, 1)], layOf, drOf, pmOf⟩
theorem chunkBoardPut_g1_env : EnvOk TT Try.prog chunkBoardPut_g1_C.E := envG (gCall_ok chunkBoard_known_g1_ok (noCall_ok 13)) (envG (fnCall_ok chunk_right_ok) (envG (fnCall_ok bytesClone_ok) (envG (forkSCall_ok _ _ (gCall_ok chunk_upload_done_g1a1_ok (noCall_ok 17)) (gCall_ok chunk_upload_done_g1a2_ok (noCall_ok 17))) (envG (fnCall_ok bytesEqual_ok) (envNil)))))
def chunkBoardPut_g1_cuts : List (Pos × Cut) := []
noncomputable def chunkBoardPut_g1 (n : Nat) (x0 : List (Int × Upload)) (x1 : Int) (x2 : Int) (x3 : Int) (x4 : List Int) : Option (((Unit × Unit) × (List (Int × Upload)) × Unit) × (List Int × Int × Unit)) := topG TT Try.prog chunkBoardPut_g1_C chunkBoardPut_g1_cuts Try.f5 (bodyOf Try.f5) ⟨[], [], [(0, 0, 4000000001, .bool)], [], []⟩ [.ptr 0 28 [.pm .i64 49 0], .val (.int .i64), .val (.int .i64), .val (.int .i64), .val (.list (.int .u8))] [.blk 28 [.mpo 1], .pm .i64 49 0] [.val (.list (.int .u8)), .val (.int .i64)] n ((x0, ()), x1, x2, x3, x4, ())
theorem chunkBoardPut_g1_eq (n : Nat) (x0 : List (Int × Upload)) (x1 : Int) (x2 : Int) (x3 : Int) (x4 : List Int) : chunkBoardPut_g1 n x0 x1 x2 x3 x4 =
  obind (chunkBoard_known_g1 BIG x0) fun y1 =>
  forkB (!y1.2.1)
  (some ((((), ()), y1.1.2.1, ()), (([] : List Int), (1 : Int), ())))
  (obind (chunk_right BIG x1 x2 x3 x4) fun y2 =>
   forkB (!y2)
   (some ((((), ()), y1.1.2.1, ()), (([] : List Int), (2 : Int), ())))
   (forkB (thas y1.1.2.1 x1)
    (if 0 ≤ x2 ∧ x2 < ((40 : Nat) : Int) then (forkB (((tget TT (.user 0) y1.1.2.1 x1 : Upload).whole) != x3)
     (some ((((), ()), tset y1.1.2.1 x1 (⟨fixL 40 ([] : List Int) ((tget TT (.user 0) y1.1.2.1 x1 : Upload).pieces), (tget TT (.user 0) y1.1.2.1 x1 : Upload).whole⟩ : Upload), ()), (([] : List Int), (7 : Int), ())))
     (forkB (((fixL 40 ([] : List Int) ((tget TT (.user 0) y1.1.2.1 x1 : Upload).pieces)).getD x2.toNat ([] : List Int)).isEmpty)
      (obind (bytesClone BIG x4) fun y3 =>
       if 0 ≤ x2 ∧ x2 < ((40 : Nat) : Int) then (if 0 < y3.length then (if x1 = x1 then (forkB (missing ((fixL 40 ([] : List Int) ((tget TT (.user 0) y1.1.2.1 x1 : Upload).pieces)).set x2.toNat y3) ((tget TT (.user 0) y1.1.2.1 x1 : Upload).whole))
       (obind (chunk_upload_done_g1a1 ((fixL 40 ([] : List Int) ((tget TT (.user 0) y1.1.2.1 x1 : Upload).pieces)).set x2.toNat y3) ((tget TT (.user 0) y1.1.2.1 x1 : Upload).whole)) fun y4 =>
        some ((((), ()), tset y1.1.2.1 x1 (⟨y4.1.1.1, y4.1.1.2.1⟩ : Upload), ()), (([] : List Int), (0 : Int), ())))
       (obind (chunk_upload_done_g1a2 ((fixL 40 ([] : List Int) ((tget TT (.user 0) y1.1.2.1 x1 : Upload).pieces)).set x2.toNat y3) ((tget TT (.user 0) y1.1.2.1 x1 : Upload).whole)) fun y5 =>
        nilF y5.2.1.isEmpty
        (some ((((), ()), tset y1.1.2.1 x1 (⟨y5.1.1.1, y5.1.1.2.1⟩ : Upload), ()), (y5.2.1, (0 : Int), ())))
        (if x1 = x1 then (some ((((), ()), tdel y1.1.2.1 x1, ()), (y5.2.1, (0 : Int), ()))) else none))) else none) else none) else none)
      (obind (bytesEqual BIG ((fixL 40 ([] : List Int) ((tget TT (.user 0) y1.1.2.1 x1 : Upload).pieces)).getD x2.toNat ([] : List Int)) x4) fun y6 =>
       forkB (!y6)
       (some ((((), ()), tset y1.1.2.1 x1 (⟨fixL 40 ([] : List Int) ((tget TT (.user 0) y1.1.2.1 x1 : Upload).pieces), (tget TT (.user 0) y1.1.2.1 x1 : Upload).whole⟩ : Upload), ()), (([] : List Int), (7 : Int), ())))
       (obind (bytesClone BIG x4) fun y7 =>
        if 0 ≤ x2 ∧ x2 < ((40 : Nat) : Int) then (if 0 < y7.length then (if x1 = x1 then (forkB (missing ((fixL 40 ([] : List Int) ((tget TT (.user 0) y1.1.2.1 x1 : Upload).pieces)).set x2.toNat y7) ((tget TT (.user 0) y1.1.2.1 x1 : Upload).whole))
        (obind (chunk_upload_done_g1a1 ((fixL 40 ([] : List Int) ((tget TT (.user 0) y1.1.2.1 x1 : Upload).pieces)).set x2.toNat y7) ((tget TT (.user 0) y1.1.2.1 x1 : Upload).whole)) fun y8 =>
         some ((((), ()), tset y1.1.2.1 x1 (⟨y8.1.1.1, y8.1.1.2.1⟩ : Upload), ()), (([] : List Int), (0 : Int), ())))
        (obind (chunk_upload_done_g1a2 ((fixL 40 ([] : List Int) ((tget TT (.user 0) y1.1.2.1 x1 : Upload).pieces)).set x2.toNat y7) ((tget TT (.user 0) y1.1.2.1 x1 : Upload).whole)) fun y9 =>
         nilF y9.2.1.isEmpty
         (some ((((), ()), tset y1.1.2.1 x1 (⟨y9.1.1.1, y9.1.1.2.1⟩ : Upload), ()), (y9.2.1, (0 : Int), ())))
         (if x1 = x1 then (some ((((), ()), tdel y1.1.2.1 x1, ()), (y9.2.1, (0 : Int), ()))) else none))) else none) else none) else none)))) else none)
    (if 0 ≤ x2 ∧ x2 < ((40 : Nat) : Int) then (forkB (x3 != x3)
     (some ((((), ()), y1.1.2.1, ()), (([] : List Int), (7 : Int), ())))
     (forkB (((List.replicate 40 ([] : List Int)).getD x2.toNat ([] : List Int)).isEmpty)
      (obind (bytesClone BIG x4) fun y10 =>
       if 0 ≤ x2 ∧ x2 < ((40 : Nat) : Int) then (if 0 < y10.length then (forkB (missing ((List.replicate 40 ([] : List Int)).set x2.toNat y10) x3)
       (obind (chunk_upload_done_g1a1 ((List.replicate 40 ([] : List Int)).set x2.toNat y10) x3) fun y11 =>
        some ((((), ()), tset (tset y1.1.2.1 x1 (⟨(List.replicate 40 ([] : List Int)).set x2.toNat y10, x3⟩ : Upload)) x1 (⟨y11.1.1.1, y11.1.1.2.1⟩ : Upload), ()), (([] : List Int), (0 : Int), ())))
       (obind (chunk_upload_done_g1a2 ((List.replicate 40 ([] : List Int)).set x2.toNat y10) x3) fun y12 =>
        nilF y12.2.1.isEmpty
        (some ((((), ()), tset (tset y1.1.2.1 x1 (⟨(List.replicate 40 ([] : List Int)).set x2.toNat y10, x3⟩ : Upload)) x1 (⟨y12.1.1.1, y12.1.1.2.1⟩ : Upload), ()), (y12.2.1, (0 : Int), ())))
        (if x1 = x1 then (some ((((), ()), tdel (tset y1.1.2.1 x1 (⟨(List.replicate 40 ([] : List Int)).set x2.toNat y10, x3⟩ : Upload)) x1, ()), (y12.2.1, (0 : Int), ()))) else none))) else none) else none)
      (obind (bytesEqual BIG ((List.replicate 40 ([] : List Int)).getD x2.toNat ([] : List Int)) x4) fun y13 =>
       forkB (!y13)
       (some ((((), ()), y1.1.2.1, ()), (([] : List Int), (7 : Int), ())))
       (obind (bytesClone BIG x4) fun y14 =>
        if 0 ≤ x2 ∧ x2 < ((40 : Nat) : Int) then (if 0 < y14.length then (forkB (missing ((List.replicate 40 ([] : List Int)).set x2.toNat y14) x3)
        (obind (chunk_upload_done_g1a1 ((List.replicate 40 ([] : List Int)).set x2.toNat y14) x3) fun y15 =>
         some ((((), ()), tset (tset y1.1.2.1 x1 (⟨(List.replicate 40 ([] : List Int)).set x2.toNat y14, x3⟩ : Upload)) x1 (⟨y15.1.1.1, y15.1.1.2.1⟩ : Upload), ()), (([] : List Int), (0 : Int), ())))
        (obind (chunk_upload_done_g1a2 ((List.replicate 40 ([] : List Int)).set x2.toNat y14) x3) fun y16 =>
         nilF y16.2.1.isEmpty
         (some ((((), ()), tset (tset y1.1.2.1 x1 (⟨(List.replicate 40 ([] : List Int)).set x2.toNat y14, x3⟩ : Upload)) x1 (⟨y16.1.1.1, y16.1.1.2.1⟩ : Upload), ()), (y16.2.1, (0 : Int), ())))
         (if x1 = x1 then (some ((((), ()), tdel (tset y1.1.2.1 x1 (⟨(List.replicate 40 ([] : List Int)).set x2.toNat y14, x3⟩ : Upload)) x1, ()), (y16.2.1, (0 : Int), ()))) else none))) else none) else none)))) else none))) := by kernel_rfl
noncomputable def chunkBoardPut_g1_sp : GSpec TT := ⟨[.ptr 0 28 [.pm .i64 49 0], .val (.int .i64), .val (.int .i64), .val (.int .i64), .val (.list (.int .u8))], [.blk 28 [.mpo 1], .pm .i64 49 0], [.val (.list (.int .u8)), .val (.int .i64)], fun x => chunkBoardPut_g1 BIG x.1.1 x.2.1 x.2.2.1 x.2.2.2.1 x.2.2.2.2.1⟩
theorem chunkBoardPut_g1_ok : GOk TT Try.prog 5 chunkBoardPut_g1_sp := gOk_of (C := chunkBoardPut_g1_C) (cuts := chunkBoardPut_g1_cuts) (by kernel_rfl) chunkBoardPut_g1_env Try.func5 (show Try.f5.body = some (bodyOf Try.f5) by kernel_rfl) (by kernel_rfl) (by kernel_rfl) (by kernel_rfl) fun x y h => ⟨BIG, h⟩
noncomputable def mapsKeys_g1_C : Ctx TT := ⟨tyOf, [], 1, [], layOf, drOf, pmOf⟩
theorem mapsKeys_g1_env : EnvOk TT Try.prog mapsKeys_g1_C.E := envNil
def mapsKeys_g1_cuts : List (Pos × Cut) := []
noncomputable def mapsKeys_g1 (n : Nat) (x0 : List (Int × Upload)) : Option (((List (Int × Upload)) × Unit) × (((Unit) × ((Unit × Unit) × Unit)) × Unit)) := topG TT Try.prog mapsKeys_g1_C mapsKeys_g1_cuts Try.f24 (bodyOf Try.f24) ⟨[], [], [], [], []⟩ [.pm .i64 49 0] [.pm .i64 49 0] [.fn 30 [] [.ptr 0 24 [.mpo 0]]] n (x0, ())
theorem mapsKeys_g1_eq (n : Nat) (x0 : List (Int × Upload)) : mapsKeys_g1 n x0 =
  some ((x0, ()), (((), (((), ()), ())), ())) := by kernel_rfl
noncomputable def mapsKeys_g1_sp : GSpec TT := ⟨[.pm .i64 49 0], [.pm .i64 49 0], [.fn 30 [] [.ptr 0 24 [.mpo 0]]], fun x => mapsKeys_g1 BIG x.1⟩
theorem mapsKeys_g1_ok : GOk TT Try.prog 24 mapsKeys_g1_sp := gOk_of (C := mapsKeys_g1_C) (cuts := mapsKeys_g1_cuts) (by kernel_rfl) mapsKeys_g1_env Try.func24 (show Try.f24.body = some (bodyOf Try.f24) by kernel_rfl) (by kernel_rfl) (by kernel_rfl) (by kernel_rfl) fun x y h => ⟨BIG, h⟩
noncomputable def chunk_table_versions_g1_C : Ctx TT := ⟨tyOf, [(24, mapsKeys_g1_sp.toCall (noCall TT)), (23, sorted_sp.toCall (noCall TT))], 1, [], layOf, drOf, pmOf⟩
theorem chunk_table_versions_g1_env : EnvOk TT Try.prog chunk_table_versions_g1_C.E := envG (gCall_ok mapsKeys_g1_ok (noCall_ok 24)) (envG (gCall_ok sorted_ok (noCall_ok 23)) (envNil))
def chunk_table_versions_g1_cuts : List (Pos × Cut) := []
noncomputable def chunk_table_versions_g1 (n : Nat) (x0 : List (Int × Upload)) : Option (((List (Int × Upload)) × Unit) × (List Int × Unit)) := topG TT Try.prog chunk_table_versions_g1_C chunk_table_versions_g1_cuts Try.f18 (bodyOf Try.f18) ⟨[], [], [], [], []⟩ [.agg [.pm .i64 49 0]] [.pm .i64 49 0] [.row 3 (.int .i64)] n ((x0, ()), ())
theorem chunk_table_versions_g1_eq (n : Nat) (x0 : List (Int × Upload)) : chunk_table_versions_g1 n x0 =
  obind (mapsKeys_g1 BIG x0) fun y1 =>
  obind (sortedKeys y1.1.1) fun y2 =>
  some ((y2.1.2.1, ()), (y2.2.1, ())) := by kernel_rfl
noncomputable def chunk_table_versions_g1_sp : GSpec TT := ⟨[.agg [.pm .i64 49 0]], [.pm .i64 49 0], [.row 3 (.int .i64)], fun x => chunk_table_versions_g1 BIG x.1.1⟩
theorem chunk_table_versions_g1_ok : GOk TT Try.prog 18 chunk_table_versions_g1_sp := gOk_of (C := chunk_table_versions_g1_C) (cuts := chunk_table_versions_g1_cuts) (by kernel_rfl) chunk_table_versions_g1_env Try.func18 (show Try.f18.body = some (bodyOf Try.f18) by kernel_rfl) (by kernel_rfl) (by kernel_rfl) (by kernel_rfl) fun x y h => ⟨BIG, h⟩
noncomputable def chunkBoardOpen_g1_C : Ctx TT := ⟨tyOf, [(13, chunkBoard_known_g1_sp.toCall (noCall TT)), (18, chunk_table_versions_g1_sp.toCall (noCall TT))], 2, [], layOf, drOf, pmOf⟩
theorem chunkBoardOpen_g1_env : EnvOk TT Try.prog chunkBoardOpen_g1_C.E := envG (gCall_ok chunkBoard_known_g1_ok (noCall_ok 13)) (envG (gCall_ok chunk_table_versions_g1_ok (noCall_ok 18)) (envNil))
def chunkBoardOpen_g1_cuts : List (Pos × Cut) := []
noncomputable def chunkBoardOpen_g1 (n : Nat) (x0 : List (Int × Upload)) : Option (((Unit × Unit) × (List (Int × Upload)) × Unit) × (List Int × Unit)) := topG TT Try.prog chunkBoardOpen_g1_C chunkBoardOpen_g1_cuts Try.f6 (bodyOf Try.f6) ⟨[(0, 3, .int .i64, true)], [], [], [], []⟩ [.ptr 0 28 [.pm .i64 49 0]] [.blk 28 [.mpo 1], .pm .i64 49 0] [.row 3 (.int .i64)] n ((x0, ()), ())
theorem chunkBoardOpen_g1_eq (n : Nat) (x0 : List (Int × Upload)) : chunkBoardOpen_g1 n x0 =
  obind (chunkBoard_known_g1 BIG x0) fun y1 =>
  forkB (!y1.2.1)
  (some ((((), ()), y1.1.2.1, ()), (([] : List Int), ())))
  (obind (chunk_table_versions_g1 BIG y1.1.2.1) fun y2 =>
   some ((((), ()), y2.1.1, ()), (y2.2.1, ()))) := by kernel_rfl
noncomputable def chunkBoardOpen_g1_sp : GSpec TT := ⟨[.ptr 0 28 [.pm .i64 49 0]], [.blk 28 [.mpo 1], .pm .i64 49 0], [.row 3 (.int .i64)], fun x => chunkBoardOpen_g1 BIG x.1.1⟩
theorem chunkBoardOpen_g1_ok : GOk TT Try.prog 6 chunkBoardOpen_g1_sp := gOk_of (C := chunkBoardOpen_g1_C) (cuts := chunkBoardOpen_g1_cuts) (by kernel_rfl) chunkBoardOpen_g1_env Try.func6 (show Try.f6.body = some (bodyOf Try.f6) by kernel_rfl) (by kernel_rfl) (by kernel_rfl) (by kernel_rfl) fun x y h => ⟨BIG, h⟩
noncomputable def chunkBoardPut_g2_C : Ctx TT := ⟨tyOf, [(13, chunkBoard_known_g1_sp.toCall (noCall TT)), (14, chunk_right_sp.toCall), (16, bytesClone_sp.toCall), (17, (CallSpec.forkS [.ptr 0 49 [.arr (.nl (.int .u8)) 40, .val (.int .i64)]] (fun x => chunk_upload_done_g1_c0 x.1.1 x.1.2.1) (chunk_upload_done_g1a1_sp.toCall (noCall TT)) (chunk_upload_done_g1a2_sp.toCall (noCall TT)))), (15, bytesEqual_sp.toCall)], 3, [(11, 1)], layOf, drOf, pmOf⟩
theorem chunkBoardPut_g2_env : EnvOk TT Try.prog chunkBoardPut_g2_C.E := envG (gCall_ok chunkBoard_known_g1_ok (noCall_ok 13)) (envG (fnCall_ok chunk_right_ok) (envG (fnCall_ok bytesClone_ok) (envG (forkSCall_ok _ _ (gCall_ok chunk_upload_done_g1a1_ok (noCall_ok 17)) (gCall_ok chunk_upload_done_g1a2_ok (noCall_ok 17))) (envG (fnCall_ok bytesEqual_ok) (envNil)))))
def chunkBoardPut_g2_cuts : List (Pos × Cut) := []
noncomputable def chunkBoardPut_g2 (n : Nat) (x0 : List (Int × Upload)) (x1 : Int) (x2 : Int) (x3 : Int) (x4 : List Int) : Option (((Unit × Unit) × (List (Int × Upload)) × List Int × Unit) × (List Int × Int × Unit)) := topG TT Try.prog chunkBoardPut_g2_C chunkBoardPut_g2_cuts Try.f5 (bodyOf Try.f5) ⟨[], [], [(0, 0, 4000000001, .bool)], [], []⟩ [.ptr 0 28 [.pm .i64 49 0], .val (.int .i64), .val (.int .i64), .val (.int .i64), .row 5 (.int .u8)] [.blk 28 [.mpo 1], .pm .i64 49 0, .row 5 (.int .u8)] [.val (.list (.int .u8)), .val (.int .i64)] n ((x0, ()), x1, x2, x3, x4, ())
theorem chunkBoardPut_g2_eq (n : Nat) (x0 : List (Int × Upload)) (x1 : Int) (x2 : Int) (x3 : Int) (x4 : List Int) : chunkBoardPut_g2 n x0 x1 x2 x3 x4 =
  obind (chunkBoard_known_g1 BIG x0) fun y1 =>
  forkB (!y1.2.1)
  (some ((((), ()), y1.1.2.1, x4, ()), (([] : List Int), (1 : Int), ())))
  (obind (chunk_right BIG x1 x2 x3 x4) fun y2 =>
   forkB (!y2)
   (some ((((), ()), y1.1.2.1, x4, ()), (([] : List Int), (2 : Int), ())))
   (forkB (thas y1.1.2.1 x1)
    (if 0 ≤ x2 ∧ x2 < ((40 : Nat) : Int) then (forkB (((tget TT (.user 0) y1.1.2.1 x1 : Upload).whole) != x3)
     (some ((((), ()), tset y1.1.2.1 x1 (⟨fixL 40 ([] : List Int) ((tget TT (.user 0) y1.1.2.1 x1 : Upload).pieces), (tget TT (.user 0) y1.1.2.1 x1 : Upload).whole⟩ : Upload), x4, ()), (([] : List Int), (7 : Int), ())))
     (forkB (((fixL 40 ([] : List Int) ((tget TT (.user 0) y1.1.2.1 x1 : Upload).pieces)).getD x2.toNat ([] : List Int)).isEmpty)
      (obind (bytesClone BIG x4) fun y3 =>
       if 0 ≤ x2 ∧ x2 < ((40 : Nat) : Int) then (if 0 < y3.length then (if x1 = x1 then (forkB (missing ((fixL 40 ([] : List Int) ((tget TT (.user 0) y1.1.2.1 x1 : Upload).pieces)).set x2.toNat y3) ((tget TT (.user 0) y1.1.2.1 x1 : Upload).whole))
       (obind (chunk_upload_done_g1a1 ((fixL 40 ([] : List Int) ((tget TT (.user 0) y1.1.2.1 x1 : Upload).pieces)).set x2.toNat y3) ((tget TT (.user 0) y1.1.2.1 x1 : Upload).whole)) fun y4 =>
        some ((((), ()), tset y1.1.2.1 x1 (⟨y4.1.1.1, y4.1.1.2.1⟩ : Upload), x4, ()), (([] : List Int), (0 : Int), ())))
       (obind (chunk_upload_done_g1a2 ((fixL 40 ([] : List Int) ((tget TT (.user 0) y1.1.2.1 x1 : Upload).pieces)).set x2.toNat y3) ((tget TT (.user 0) y1.1.2.1 x1 : Upload).whole)) fun y5 =>
        nilF y5.2.1.isEmpty
        (some ((((), ()), tset y1.1.2.1 x1 (⟨y5.1.1.1, y5.1.1.2.1⟩ : Upload), x4, ()), (y5.2.1, (0 : Int), ())))
        (if x1 = x1 then (some ((((), ()), tdel y1.1.2.1 x1, x4, ()), (y5.2.1, (0 : Int), ()))) else none))) else none) else none) else none)
      (obind (bytesEqual BIG ((fixL 40 ([] : List Int) ((tget TT (.user 0) y1.1.2.1 x1 : Upload).pieces)).getD x2.toNat ([] : List Int)) x4) fun y6 =>
       forkB (!y6)
       (some ((((), ()), tset y1.1.2.1 x1 (⟨fixL 40 ([] : List Int) ((tget TT (.user 0) y1.1.2.1 x1 : Upload).pieces), (tget TT (.user 0) y1.1.2.1 x1 : Upload).whole⟩ : Upload), x4, ()), (([] : List Int), (7 : Int), ())))
       (obind (bytesClone BIG x4) fun y7 =>
        if 0 ≤ x2 ∧ x2 < ((40 : Nat) : Int) then (if 0 < y7.length then (if x1 = x1 then (forkB (missing ((fixL 40 ([] : List Int) ((tget TT (.user 0) y1.1.2.1 x1 : Upload).pieces)).set x2.toNat y7) ((tget TT (.user 0) y1.1.2.1 x1 : Upload).whole))
        (obind (chunk_upload_done_g1a1 ((fixL 40 ([] : List Int) ((tget TT (.user 0) y1.1.2.1 x1 : Upload).pieces)).set x2.toNat y7) ((tget TT (.user 0) y1.1.2.1 x1 : Upload).whole)) fun y8 =>
         some ((((), ()), tset y1.1.2.1 x1 (⟨y8.1.1.1, y8.1.1.2.1⟩ : Upload), x4, ()), (([] : List Int), (0 : Int), ())))
        (obind (chunk_upload_done_g1a2 ((fixL 40 ([] : List Int) ((tget TT (.user 0) y1.1.2.1 x1 : Upload).pieces)).set x2.toNat y7) ((tget TT (.user 0) y1.1.2.1 x1 : Upload).whole)) fun y9 =>
         nilF y9.2.1.isEmpty
         (some ((((), ()), tset y1.1.2.1 x1 (⟨y9.1.1.1, y9.1.1.2.1⟩ : Upload), x4, ()), (y9.2.1, (0 : Int), ())))
         (if x1 = x1 then (some ((((), ()), tdel y1.1.2.1 x1, x4, ()), (y9.2.1, (0 : Int), ()))) else none))) else none) else none) else none)))) else none)
    (if 0 ≤ x2 ∧ x2 < ((40 : Nat) : Int) then (forkB (x3 != x3)
     (some ((((), ()), y1.1.2.1, x4, ()), (([] : List Int), (7 : Int), ())))
     (forkB (((List.replicate 40 ([] : List Int)).getD x2.toNat ([] : List Int)).isEmpty)
      (obind (bytesClone BIG x4) fun y10 =>
       if 0 ≤ x2 ∧ x2 < ((40 : Nat) : Int) then (if 0 < y10.length then (forkB (missing ((List.replicate 40 ([] : List Int)).set x2.toNat y10) x3)
       (obind (chunk_upload_done_g1a1 ((List.replicate 40 ([] : List Int)).set x2.toNat y10) x3) fun y11 =>
        some ((((), ()), tset (tset y1.1.2.1 x1 (⟨(List.replicate 40 ([] : List Int)).set x2.toNat y10, x3⟩ : Upload)) x1 (⟨y11.1.1.1, y11.1.1.2.1⟩ : Upload), x4, ()), (([] : List Int), (0 : Int), ())))
       (obind (chunk_upload_done_g1a2 ((List.replicate 40 ([] : List Int)).set x2.toNat y10) x3) fun y12 =>
        nilF y12.2.1.isEmpty
        (some ((((), ()), tset (tset y1.1.2.1 x1 (⟨(List.replicate 40 ([] : List Int)).set x2.toNat y10, x3⟩ : Upload)) x1 (⟨y12.1.1.1, y12.1.1.2.1⟩ : Upload), x4, ()), (y12.2.1, (0 : Int), ())))
        (if x1 = x1 then (some ((((), ()), tdel (tset y1.1.2.1 x1 (⟨(List.replicate 40 ([] : List Int)).set x2.toNat y10, x3⟩ : Upload)) x1, x4, ()), (y12.2.1, (0 : Int), ()))) else none))) else none) else none)
      (obind (bytesEqual BIG ((List.replicate 40 ([] : List Int)).getD x2.toNat ([] : List Int)) x4) fun y13 =>
       forkB (!y13)
       (some ((((), ()), y1.1.2.1, x4, ()), (([] : List Int), (7 : Int), ())))
       (obind (bytesClone BIG x4) fun y14 =>
        if 0 ≤ x2 ∧ x2 < ((40 : Nat) : Int) then (if 0 < y14.length then (forkB (missing ((List.replicate 40 ([] : List Int)).set x2.toNat y14) x3)
        (obind (chunk_upload_done_g1a1 ((List.replicate 40 ([] : List Int)).set x2.toNat y14) x3) fun y15 =>
         some ((((), ()), tset (tset y1.1.2.1 x1 (⟨(List.replicate 40 ([] : List Int)).set x2.toNat y14, x3⟩ : Upload)) x1 (⟨y15.1.1.1, y15.1.1.2.1⟩ : Upload), x4, ()), (([] : List Int), (0 : Int), ())))
        (obind (chunk_upload_done_g1a2 ((List.replicate 40 ([] : List Int)).set x2.toNat y14) x3) fun y16 =>
         nilF y16.2.1.isEmpty
         (some ((((), ()), tset (tset y1.1.2.1 x1 (⟨(List.replicate 40 ([] : List Int)).set x2.toNat y14, x3⟩ : Upload)) x1 (⟨y16.1.1.1, y16.1.1.2.1⟩ : Upload), x4, ()), (y16.2.1, (0 : Int), ())))
         (if x1 = x1 then (some ((((), ()), tdel (tset y1.1.2.1 x1 (⟨(List.replicate 40 ([] : List Int)).set x2.toNat y14, x3⟩ : Upload)) x1, x4, ()), (y16.2.1, (0 : Int), ()))) else none))) else none) else none)))) else none))) := by kernel_rfl
noncomputable def chunkBoardPut_g2_sp : GSpec TT := ⟨[.ptr 0 28 [.pm .i64 49 0], .val (.int .i64), .val (.int .i64), .val (.int .i64), .row 5 (.int .u8)], [.blk 28 [.mpo 1], .pm .i64 49 0, .row 5 (.int .u8)], [.val (.list (.int .u8)), .val (.int .i64)], fun x => chunkBoardPut_g2 BIG x.1.1 x.2.1 x.2.2.1 x.2.2.2.1 x.2.2.2.2.1⟩
theorem chunkBoardPut_g2_ok : GOk TT Try.prog 5 chunkBoardPut_g2_sp := gOk_of (C := chunkBoardPut_g2_C) (cuts := chunkBoardPut_g2_cuts) (by kernel_rfl) chunkBoardPut_g2_env Try.func5 (show Try.f5.body = some (bodyOf Try.f5) by kernel_rfl) (by kernel_rfl) (by kernel_rfl) (by kernel_rfl) fun x y h => ⟨BIG, h⟩
noncomputable def kitSameInts_C : Ctx TT := ⟨tyOf, [], 0, [], layOf, drOf, pmOf⟩
theorem kitSameInts_env : EnvOk TT Try.prog kitSameInts_C.E := envNil
def kitSameInts_cuts : List (Pos × Cut) := [([false, true, false, true, true], ⟨[0, 1, 5], [], false, [], 0, false⟩)]
noncomputable def kitSameInts (n : Nat) (x0 : List Int) (x1 : List Int) : Option (Bool) := topF TT Try.prog kitSameInts_C kitSameInts_cuts Try.f19 (bodyOf Try.f19) ⟨[], []⟩ [.val (.list (.int .i64)), .val (.list (.int .i64))] [.val (.bool)] n (x0, x1)
noncomputable def kitSameInts_L0 (n : Nat) (s0 : List Int) (s1 : List Int) (s5 : Int) : Option (Bool) := cutF TT Try.prog kitSameInts_C kitSameInts_cuts Try.f19 (bodyOf Try.f19) ⟨[], []⟩ [.val (.list (.int .i64)), .val (.list (.int .i64))] [.val (.bool)] n [false, true, false, true, true] ⟨[(0, .cell ⟨.list (.int .i64), s0⟩), (1, .cell ⟨.list (.int .i64), s1⟩), (5, .cell ⟨.int .i64, s5⟩)], []⟩
theorem kitSameInts_eq (n : Nat) (x0 : List Int) (x1 : List Int) : kitSameInts n x0 x1 =
  forkB (((x0.length : Nat) : Int) != ((x1.length : Nat) : Int))
  (some false)
  (kitSameInts_L0 n x0 x1 (0 : Int)) := by kernel_rfl
theorem kitSameInts_L0_eq (n : Nat) (s0 : List Int) (s1 : List Int) (s5 : Int) : kitSameInts_L0 (n + 1) s0 s1 s5 =
  forkB (decide (s5 < ((s0.length : Nat) : Int)))
  (if 0 ≤ s5 ∧ s5 < ((s0.length : Nat) : Int) then (if 0 ≤ s5 ∧ s5 < ((s1.length : Nat) : Int) then (forkB ((s0.getD s5.toNat (0 : Int)) != (s1.getD s5.toNat (0 : Int)))
   (some false)
   (kitSameInts_L0 n s0 s1 (IntKind.i64.wrap (s5 + (1 : Int))))) else none) else none)
  (some true) := by kernel_rfl
noncomputable def kitSameInts_sp : FnSpec TT := ⟨[.val (.list (.int .i64)), .val (.list (.int .i64))], [.val (.bool)], fun x => kitSameInts BIG x.1 x.2⟩
theorem kitSameInts_ok : FnOk TT Try.prog 19 kitSameInts_sp := fnOk_of (C := kitSameInts_C) (by kernel_rfl) kitSameInts_env Try.func19 (show Try.f19.body = some (bodyOf Try.f19) by kernel_rfl) (by kernel_rfl) (by kernel_rfl) (cuts := kitSameInts_cuts) fun x y h => ⟨BIG, h⟩
noncomputable def law20_awake_C : Ctx TT := ⟨tyOf, [(11, chunkNew_g1_sp.toCall (noCall TT)), (5, chunkBoardPut_g2_sp.toCall (chunkBoardPut_g1_sp.toCall (noCall TT))), (6, chunkBoardOpen_g1_sp.toCall (noCall TT)), (19, kitSameInts_sp.toCall)], 0, [], layOf, drOf, pmOf⟩
theorem law20_awake_env : EnvOk TT Try.prog law20_awake_C.E := envG (gCall_ok chunkNew_g1_ok (noCall_ok 11)) (envG (gCall_ok chunkBoardPut_g2_ok (gCall_ok chunkBoardPut_g1_ok (noCall_ok 5))) (envG (gCall_ok chunkBoardOpen_g1_ok (noCall_ok 6)) (envG (fnCall_ok kitSameInts_ok) (envNil))))
def law20_awake_cuts : List (Pos × Cut) := []
noncomputable def law20_awake (n : Nat)  : Option (Bool) := topF TT Try.prog law20_awake_C law20_awake_cuts Try.f8 (bodyOf Try.f8) ⟨[], []⟩ [] [.val (.bool)] n ()
theorem law20_awake_eq (n : Nat)  : law20_awake n  =
  obind (chunkNew_g1 BIG ) fun y1 =>
  obind (chunkBoardPut_g1 BIG y1.2.1.1 (7 : Int) (1 : Int) (2 : Int) ([(98 : Int)] : List Int)) fun y2 =>
  obind (chunkBoardOpen_g1 BIG y2.1.2.1) fun y3 =>
  obind (chunkBoardPut_g1 BIG y3.1.2.1 (7 : Int) (1 : Int) (2 : Int) ([(98 : Int)] : List Int)) fun y4 =>
  obind (chunkBoardPut_g1 BIG y4.1.2.1 (7 : Int) (1 : Int) (2 : Int) ([(99 : Int)] : List Int)) fun y5 =>
  obind (chunkBoardPut_g1 BIG y5.1.2.1 (7 : Int) (0 : Int) (2 : Int) ([(97 : Int)] : List Int)) fun y6 =>
  if 0 ≤ (1024 : Int) ∧ (1024 : Int) ≤ (1024 : Int) ∧ 1 * 1024 ≤ 281474976710656 ∧ (1024 : Int) ≤ 9223372036854775807 then (obind (chunkBoardPut_g2 BIG y6.1.2.1 (7 : Int) (0 : Int) (2 : Int) (List.replicate 1024 (0 : Int))) fun y7 =>
  forkB (y2.2.2.1 == (0 : Int))
  (forkB (((y2.2.1.length : Nat) : Int) == (0 : Int))
   (forkB (y4.2.2.1 == (0 : Int))
    (forkB (((y4.2.1.length : Nat) : Int) == (0 : Int))
     (forkB (y5.2.2.1 == (7 : Int))
      (forkB (y6.2.2.1 == (2 : Int))
       (forkB (y7.2.2.1 == (0 : Int))
        (forkB (((y7.2.1.length : Nat) : Int) == (1025 : Int))
         (if 0 ≤ (1024 : Int) ∧ (1024 : Int) < ((y7.2.1.length : Nat) : Int) then (forkB ((y7.2.1.getD 1024 (0 : Int)) == (98 : Int))
          (obind (kitSameInts BIG y3.2.1 ([(7 : Int)] : List Int)) fun y8 =>
           forkB y8
           (obind (chunkBoardOpen_g1 BIG y7.1.2.1) fun y9 =>
            some (((y9.2.1.length : Nat) : Int) == (0 : Int)))
           (some false))
          (some false)) else none)
         (some false))
        (some false))
       (some false))
      (some false))
     (some false))
    (some false))
   (some false))
  (some false)) else none := by kernel_rfl
noncomputable def law20_awake_sp : FnSpec TT := ⟨[], [.val (.bool)], fun _ => law20_awake BIG ⟩
theorem law20_awake_ok : FnOk TT Try.prog 8 law20_awake_sp := fnOk_of (C := law20_awake_C) (by kernel_rfl) law20_awake_env Try.func8 (show Try.f8.body = some (bodyOf Try.f8) by kernel_rfl) (by kernel_rfl) (by kernel_rfl) (cuts := law20_awake_cuts) fun x y h => ⟨BIG, h⟩
end Go.X

/- The law ChunkNil. -/
namespace Go.X
open Go.RowKit Go.V Go.Proofs
noncomputable def chunkBoard_known_g2_C : Ctx TT := ⟨tyOf, [], 0, [], layOf, drOf, pmOf⟩
theorem chunkBoard_known_g2_env : EnvOk TT Try.prog chunkBoard_known_g2_C.E := envNil
def chunkBoard_known_g2_cuts : List (Pos × Cut) := []
noncomputable def chunkBoard_known_g2 (n : Nat)  : Option ((Unit) × (Bool × Unit)) := topG TT Try.prog chunkBoard_known_g2_C chunkBoard_known_g2_cuts Try.f13 (bodyOf Try.f13) ⟨[], [], [], [], []⟩ [.nilp] [] [.val (.bool)] n ((), ())
noncomputable def chunkBoard_known_g2_sp : GSpec TT := ⟨[.nilp], [], [.val (.bool)], fun _ => chunkBoard_known_g2 BIG ⟩
theorem chunkBoard_known_g2_ok : GOk TT Try.prog 13 chunkBoard_known_g2_sp := gOk_of (C := chunkBoard_known_g2_C) (cuts := chunkBoard_known_g2_cuts) (by kernel_rfl) chunkBoard_known_g2_env Try.func13 (show Try.f13.body = some (bodyOf Try.f13) by kernel_rfl) (by kernel_rfl) (by kernel_rfl) (by kernel_rfl) fun x y h => ⟨BIG, h⟩
noncomputable def chunkBoardPut_g3_C : Ctx TT := ⟨tyOf, [(13, chunkBoard_known_g2_sp.toCall (chunkBoard_known_g1_sp.toCall (noCall TT))), (14, chunk_right_sp.toCall)], 0, [], layOf, drOf, pmOf⟩
theorem chunkBoardPut_g3_env : EnvOk TT Try.prog chunkBoardPut_g3_C.E := envG (gCall_ok chunkBoard_known_g2_ok (gCall_ok chunkBoard_known_g1_ok (noCall_ok 13))) (envG (fnCall_ok chunk_right_ok) (envNil))
def chunkBoardPut_g3_cuts : List (Pos × Cut) := []
noncomputable def chunkBoardPut_g3 (n : Nat) (x0 : Int) (x1 : Int) (x2 : Int) (x3 : List Int) : Option ((Unit) × (Unit × Int × Unit)) := topG TT Try.prog chunkBoardPut_g3_C chunkBoardPut_g3_cuts Try.f5 (bodyOf Try.f5) ⟨[], [], [(0, 0, 4000000001, .bool)], [], []⟩ [.nilp, .val (.int .i64), .val (.int .i64), .val (.int .i64), .val (.list (.int .u8))] [] [.nils, .val (.int .i64)] n ((), x0, x1, x2, x3, ())
noncomputable def chunkBoardPut_g3_sp : GSpec TT := ⟨[.nilp, .val (.int .i64), .val (.int .i64), .val (.int .i64), .val (.list (.int .u8))], [], [.nils, .val (.int .i64)], fun x => chunkBoardPut_g3 BIG x.2.1 x.2.2.1 x.2.2.2.1 x.2.2.2.2.1⟩
theorem chunkBoardPut_g3_ok : GOk TT Try.prog 5 chunkBoardPut_g3_sp := gOk_of (C := chunkBoardPut_g3_C) (cuts := chunkBoardPut_g3_cuts) (by kernel_rfl) chunkBoardPut_g3_env Try.func5 (show Try.f5.body = some (bodyOf Try.f5) by kernel_rfl) (by kernel_rfl) (by kernel_rfl) (by kernel_rfl) fun x y h => ⟨BIG, h⟩
noncomputable def chunkBoardDrop_g1_C : Ctx TT := ⟨tyOf, [(13, chunkBoard_known_g2_sp.toCall (chunkBoard_known_g1_sp.toCall (noCall TT)))], 0, [], layOf, drOf, pmOf⟩
theorem chunkBoardDrop_g1_env : EnvOk TT Try.prog chunkBoardDrop_g1_C.E := envG (gCall_ok chunkBoard_known_g2_ok (gCall_ok chunkBoard_known_g1_ok (noCall_ok 13))) (envNil)
def chunkBoardDrop_g1_cuts : List (Pos × Cut) := []
noncomputable def chunkBoardDrop_g1 (n : Nat) (x0 : Int) : Option ((Unit) × (Int × Unit)) := topG TT Try.prog chunkBoardDrop_g1_C chunkBoardDrop_g1_cuts Try.f7 (bodyOf Try.f7) ⟨[], [], [(0, 0, 4000000001, .bool)], [], []⟩ [.nilp, .val (.int .i64)] [] [.val (.int .i64)] n ((), x0, ())
noncomputable def chunkBoardDrop_g1_sp : GSpec TT := ⟨[.nilp, .val (.int .i64)], [], [.val (.int .i64)], fun x => chunkBoardDrop_g1 BIG x.2.1⟩
theorem chunkBoardDrop_g1_ok : GOk TT Try.prog 7 chunkBoardDrop_g1_sp := gOk_of (C := chunkBoardDrop_g1_C) (cuts := chunkBoardDrop_g1_cuts) (by kernel_rfl) chunkBoardDrop_g1_env Try.func7 (show Try.f7.body = some (bodyOf Try.f7) by kernel_rfl) (by kernel_rfl) (by kernel_rfl) (by kernel_rfl) fun x y h => ⟨BIG, h⟩
noncomputable def chunkBoard_known_g3_C : Ctx TT := ⟨tyOf, [], 1, [], layOf, drOf, pmOf⟩
theorem chunkBoard_known_g3_env : EnvOk TT Try.prog chunkBoard_known_g3_C.E := envNil
def chunkBoard_known_g3_cuts : List (Pos × Cut) := []
noncomputable def chunkBoard_known_g3 (n : Nat)  : Option (((Unit × Unit) × Unit) × (Bool × Unit)) := topG TT Try.prog chunkBoard_known_g3_C chunkBoard_known_g3_cuts Try.f13 (bodyOf Try.f13) ⟨[], [], [], [], []⟩ [.ptr 0 28 [.rw 2]] [.blk 28 [.rw 2]] [.val (.bool)] n (((), ()), ())
noncomputable def chunkBoard_known_g3_sp : GSpec TT := ⟨[.ptr 0 28 [.rw 2]], [.blk 28 [.rw 2]], [.val (.bool)], fun _ => chunkBoard_known_g3 BIG ⟩
theorem chunkBoard_known_g3_ok : GOk TT Try.prog 13 chunkBoard_known_g3_sp := gOk_of (C := chunkBoard_known_g3_C) (cuts := chunkBoard_known_g3_cuts) (by kernel_rfl) chunkBoard_known_g3_env Try.func13 (show Try.f13.body = some (bodyOf Try.f13) by kernel_rfl) (by kernel_rfl) (by kernel_rfl) (by kernel_rfl) fun x y h => ⟨BIG, h⟩
noncomputable def chunkBoardPut_g4_C : Ctx TT := ⟨tyOf, [(13, chunkBoard_known_g3_sp.toCall (chunkBoard_known_g2_sp.toCall (chunkBoard_known_g1_sp.toCall (noCall TT)))), (14, chunk_right_sp.toCall)], 1, [], layOf, drOf, pmOf⟩
theorem chunkBoardPut_g4_env : EnvOk TT Try.prog chunkBoardPut_g4_C.E := envG (gCall_ok chunkBoard_known_g3_ok (gCall_ok chunkBoard_known_g2_ok (gCall_ok chunkBoard_known_g1_ok (noCall_ok 13)))) (envG (fnCall_ok chunk_right_ok) (envNil))
def chunkBoardPut_g4_cuts : List (Pos × Cut) := []
noncomputable def chunkBoardPut_g4 (n : Nat) (x0 : Int) (x1 : Int) (x2 : Int) (x3 : List Int) : Option (((Unit × Unit) × Unit) × (Unit × Int × Unit)) := topG TT Try.prog chunkBoardPut_g4_C chunkBoardPut_g4_cuts Try.f5 (bodyOf Try.f5) ⟨[], [], [(0, 0, 4000000001, .bool)], [], []⟩ [.ptr 0 28 [.rw 2], .val (.int .i64), .val (.int .i64), .val (.int .i64), .val (.list (.int .u8))] [.blk 28 [.rw 2]] [.nils, .val (.int .i64)] n (((), ()), x0, x1, x2, x3, ())
noncomputable def chunkBoardPut_g4_sp : GSpec TT := ⟨[.ptr 0 28 [.rw 2], .val (.int .i64), .val (.int .i64), .val (.int .i64), .val (.list (.int .u8))], [.blk 28 [.rw 2]], [.nils, .val (.int .i64)], fun x => chunkBoardPut_g4 BIG x.2.1 x.2.2.1 x.2.2.2.1 x.2.2.2.2.1⟩
theorem chunkBoardPut_g4_ok : GOk TT Try.prog 5 chunkBoardPut_g4_sp := gOk_of (C := chunkBoardPut_g4_C) (cuts := chunkBoardPut_g4_cuts) (by kernel_rfl) chunkBoardPut_g4_env Try.func5 (show Try.f5.body = some (bodyOf Try.f5) by kernel_rfl) (by kernel_rfl) (by kernel_rfl) (by kernel_rfl) fun x y h => ⟨BIG, h⟩
noncomputable def chunkBoardDrop_g2_C : Ctx TT := ⟨tyOf, [(13, chunkBoard_known_g3_sp.toCall (chunkBoard_known_g2_sp.toCall (chunkBoard_known_g1_sp.toCall (noCall TT))))], 1, [], layOf, drOf, pmOf⟩
theorem chunkBoardDrop_g2_env : EnvOk TT Try.prog chunkBoardDrop_g2_C.E := envG (gCall_ok chunkBoard_known_g3_ok (gCall_ok chunkBoard_known_g2_ok (gCall_ok chunkBoard_known_g1_ok (noCall_ok 13)))) (envNil)
def chunkBoardDrop_g2_cuts : List (Pos × Cut) := []
noncomputable def chunkBoardDrop_g2 (n : Nat) (x0 : Int) : Option (((Unit × Unit) × Unit) × (Int × Unit)) := topG TT Try.prog chunkBoardDrop_g2_C chunkBoardDrop_g2_cuts Try.f7 (bodyOf Try.f7) ⟨[], [], [(0, 0, 4000000001, .bool)], [], []⟩ [.ptr 0 28 [.rw 2], .val (.int .i64)] [.blk 28 [.rw 2]] [.val (.int .i64)] n (((), ()), x0, ())
noncomputable def chunkBoardDrop_g2_sp : GSpec TT := ⟨[.ptr 0 28 [.rw 2], .val (.int .i64)], [.blk 28 [.rw 2]], [.val (.int .i64)], fun x => chunkBoardDrop_g2 BIG x.2.1⟩
theorem chunkBoardDrop_g2_ok : GOk TT Try.prog 7 chunkBoardDrop_g2_sp := gOk_of (C := chunkBoardDrop_g2_C) (cuts := chunkBoardDrop_g2_cuts) (by kernel_rfl) chunkBoardDrop_g2_env Try.func7 (show Try.f7.body = some (bodyOf Try.f7) by kernel_rfl) (by kernel_rfl) (by kernel_rfl) (by kernel_rfl) fun x y h => ⟨BIG, h⟩
end Go.X

/- By hand: slices.Chunk's iterator. -/
namespace Go.X
open Go.RowKit Go.V Go.Proofs
/-! ### A slice of a slice, with room -/
section
variable {P : Program} {ops : Array Oper} {Q : Exit → Act → World → Prop} {k n : Nat} {F : PF} {w : World}
def decSlice3 (ops : Array Oper) (k n : Nat) (F : PF) : Option (Option Tmp × TypeId × Value × Value × Value × Value) :=
  match dec ops k n F with | some ⟨dst, .slice t x (some lo) (some hi) (some mx), _, _, _, _⟩ => some (dst, t, evD F x, evD F lo, evD F hi, evD F mx) | _ => none
theorem WRI.slice3 {dst : Option Tmp} {t e : TypeId} {ad : Option Addr} {m cap : Nat} {kl kh km : IntKind} {l h mx : Int} {sz by_ : Nat} {zc : Array Value} (hd : decSlice3 ops k n F = some (dst, t, .slice ad m cap, .int kl l, .int kh h, .int km mx)) (hi : eInfo P t = some (e, sz, by_, zc))
    (h0 : 0 ≤ l) (h1 : l ≤ h) (h2 : h ≤ mx) (h3 : mx ≤ (cap : Int)) (K : WRI P ops Q (k + 1) n (upd F dst (sliced ad l.toNat h.toNat mx.toNat sz)) w) : WRI P ops Q k n F w := by
  unfold decSlice3 at hd
  split at hd
  · rename_i d t' x' l' h' m' ty pos af gd hdec
    simp only [Option.some.injEq, Prod.mk.injEq] at hd
    obtain ⟨rfl, rfl, e1, e2, e3, e4⟩ := hd
    obtain ⟨inf, z, hu, hin, _, hsz, _⟩ := eInfo_spec hi
    have hel : P.elem t' = e := by simp [Program.elem, hu]
    refine .val hdec (v := sliced ad l.toNat h.toNat mx.toNat sz) (w' := w) ?_ K
    have hs : (sizeOf e).run P w = .ok sz w := by simp [sizeOf, typeInfo, hin, hsz]
    show (do pure (.value (← Instr.sliceAt t' (evD F x') (some (evD F l')) (some (evD F h')) (some (evD F m')))) : Sem Next).run P w = _
    rw [e1, e2, e3, e4, Sem.run_bind, run_sliceAt_slice w t' _ _ _ _ (elem_of hu), run_slice_lhm w t' ad m cap (elem_of hu) kl kh km l h mx h0 h1 h2 h3, hel, hs]
    rfl
  · cases hd
theorem WQ.sliceL {C : World → Prop} {Qf : Act → Prop} {ds : List Deferred} {dst : Option Tmp} {t e : TypeId} {ad : Option Addr} {m cap : Nat} {kl : IntKind} {l : Int} {sz by_ : Nat} {zc : Array Value} (hd : decSlice ops k n F = some (dst, t, .slice ad m cap, some (.int kl l), none)) (hi : eInfo P t = some (e, sz, by_, zc))
    (h0 : 0 ≤ l) (h1 : l ≤ (m : Int)) (K : WQ P ops C Qf (k + 1) n ds (upd F dst (sliced ad l.toNat m cap sz))) : WQ P ops C Qf k n ds F := by
  obtain ⟨o, hdec, rfl, he⟩ := decSlice_spec hd
  obtain ⟨inf, z, hu, hin, _, hsz, _⟩ := eInfo_spec hi
  have hel : P.elem t = e := by simp [Program.elem, hu]
  refine .step hdec (fun w _ => ?_) K
  have hs : (sizeOf e).run P w = .ok sz w := by simp [sizeOf, typeInfo, hin, hsz]
  have hr : (execOp (evD F) o).run P w = .ok (.value (sliced ad l.toNat m cap sz)) w := by
    rw [he, Sem.run_bind, run_sliceAt_slice w t _ _ _ _ (elem_of hu), run_slice_l w t ad m cap (elem_of hu) kl l h0 h1, hel, hs]
    rfl
  rw [hr]; exact ⟨rfl, rfl⟩
end
/-! ### Pieces of a thousand and twenty-four -/
def rdCh (tb ti : TypeId) (H : List (Ent TT.U)) : List (AV TT.U) → Option (List Int × Int)
  | [.ptr i 0, .ptr j 0] => match H[i]?, H[j]? with
    | some (.blk t1 [.cell ⟨.list (.int .u8), b⟩]), some (.blk t2 [.cell ⟨.int .i64, n⟩]) => match Nat.beq t1 tb && Nat.beq t2 ti with | true => some (b, n) | false => none
    | _, _ => none
  | _ => none
def itCh (tb ti : TypeId) : ItS TT where
  cnt := fun caps H => match rdCh tb ti H caps with | some (b, n) => forkB (decide (n = 1024) && Nat.ble b.length 1099511627776) (some ((b.length + 1023) / 1024)) none | none => none
  item := fun caps H k => match rdCh tb ti H caps with | some (b, _) => some [.cell ⟨.list (.int .u8), List.take 1024 (List.drop (k * 1024) b)⟩] | none => none
  chk := fun caps H N => match rdCh tb ti H caps with | some (b, n) => some (decide (n = 1024) && (Nat.beq ((b.length + 1023) / 1024) N && Nat.ble b.length 1099511627776)) | none => some false
theorem rdCh_spec {tb ti : TypeId} {H : List (Ent TT.U)} {caps : List (AV TT.U)} {b : List Int} {n : Int} (h : rdCh tb ti H caps = some (b, n)) : ∃ i j, caps = [.ptr i 0, .ptr j 0] ∧ H[i]? = some (.blk tb [.cell ⟨.list (.int .u8), b⟩]) ∧ H[j]? = some (.blk ti [.cell ⟨.int .i64, n⟩]) := by
  unfold rdCh at h
  split at h
  · rename_i i j
    split at h
    · rename_i t1 b' t2 n' h1 h2
      split at h
      · rename_i hb
        rw [Bool.and_eq_true] at hb
        simp only [Option.some.injEq, Prod.mk.injEq] at h
        obtain ⟨rfl, rfl⟩ := h
        exact ⟨i, j, rfl, by rw [h1, Nat.eq_of_beq_eq_true hb.1], by rw [h2, Nat.eq_of_beq_eq_true hb.2]⟩
      · cases h
    · cases h
  · cases h
theorem CR.form {w : World} {S : List Nat} {e : Ty} {xs : List (den TT.U e)} {v : Value} (h : CR TT w S (.list e) xs v) : ∃ ad cap, v = .slice ad xs.length cap ∧ xs.length ≤ cap ∧ (ad = none → xs.length = 0 ∧ cap = 0) := by
  cases h with
  | list _ _ ad cap u hcap hnil had hcell hrel => exact ⟨ad, cap, rfl, hcap, hnil⟩
theorem CR.room {w : World} {S : List Nat} {e : Ty} {xs : List (den TT.U e)} {ad : Option Addr} {cap c' : Nat} (h : CR TT w S (.list e) xs (.slice ad xs.length cap)) (hc : xs.length ≤ c') (hn : ad = none → c' = 0) : CR TT w S (.list e) xs (.slice ad xs.length c') := by
  cases h with
  | list _ _ _ _ u hcap hnil had hcell hrel => exact .list e xs ad c' u hc (fun h => ⟨(hnil h).1, hn h⟩) had hcell hrel
theorem eiU8 : eInfo Try.prog 22 = some (5, 1, 1, #[.int .u8 0]) := by kernel_rfl
def pcN (len k : Nat) : Nat := min 1024 (len - k * 1024)
def pcV (ad : Option Addr) (len k : Nat) : Value := sliced ad (k * 1024) (k * 1024 + pcN len k) (k * 1024 + pcN len k) 1
structure ChCon (W : World) (g1 g2 N : Nat) (ad : Option Addr) (cap len : Nat) : Prop where
  b1 : Blk W g1 #[.slice ad len cap] 22
  b2 : Blk W g2 #[.int .i64 1024] 3
  cnt : (len + 1023) / 1024 = N
  le : len ≤ cap
  big : len ≤ 1099511627776
theorem chunk_run (g1 g2 l N : Nat) (J : Nat → World → Prop) (w : World)
    (hround : ∀ k W, k < N → J k W → ∃ ad cap len, ChCon W g1 g2 N ad cap len ∧ YieldW Try.prog l #[pcV ad len k] W fun e W' => e = .returned (.bool true) ∧ J (k + 1) W')
    (hend : ∀ W, J N W → ∃ ad cap len, ChCon W g1 g2 N ad cap len) (hpure : ∀ k W W', J k W → Chg [] W W' → J k W')
    (h0 : J 0 w) : Calls Try.prog 25 #[.func (.yield l) #[] #[], .pointer (some ⟨g1, 0, none⟩), .pointer (some ⟨g2, 0, none⟩)] w fun e W' => (∃ v, e = .returned v) ∧ J N W' := by
  have key : CWI Try.prog (bodyOf Try.f25) (bodyPostM Fence.wide 0 Try.prog Try.f25 fun e W' => (∃ v, e = .returned v) ∧ J N W') 31 [(0, .func (.yield l) #[] #[]), (1, .pointer (some ⟨g1, 0, none⟩)), (2, .pointer (some ⟨g2, 0, none⟩))] w := by
    refine CWI.seq (CWI.region ?_)
    refine WRI.batch 1 [(0, .func (.yield l) #[] #[]), (1, .pointer (some ⟨g1, 0, none⟩)), (2, .pointer (some ⟨g2, 0, none⟩)), (4, .int .i64 0)] (by kernel_rfl) ?_
    refine WRI.fin (by kernel_rfl) fun a ha => ⟨_, ha, ?_⟩
    refine CWI.block fun a ha => wpIn_loop (fun a W => ∃ k : Nat, k ≤ N ∧ J k W ∧ Fr 31 [] [(0, .func (.yield l) #[] #[]), (1, .pointer (some ⟨g1, 0, none⟩)), (2, .pointer (some ⟨g2, 0, none⟩)), (4, .int .i64 ((k * 1024 : Nat) : Int))] a) (fun a _ => match a.tmps.getD 4 undef with | .int _ x => (((N * 1024 : Nat) : Int) - x).toNat | _ => 0) ⟨0, Nat.zero_le _, h0, ha⟩ ?_
    rintro a W ⟨k, hk, hJ, hf⟩
    have hμ : (match a.tmps.getD 4 undef with | .int _ x => (((N * 1024 : Nat) : Int) - x).toNat | _ => 0) = (((N * 1024 : Nat) : Int) - ((k * 1024 : Nat) : Int)).toNat := by rw [(hf.val 4 (.int .i64 ((k * 1024 : Nat) : Int)) rfl).1]
    rw [hμ]
    obtain ⟨ad, cap, len, hcon⟩ : ∃ ad cap len, ChCon W g1 g2 N ad cap len := by
      rcases Nat.lt_or_eq_of_le hk with h | h
      · obtain ⟨ad, cap, len, h1, _⟩ := hround k W h hJ; exact ⟨ad, cap, len, h1⟩
      · subst h; exact hend W hJ
    have hcnt := hcon.cnt
    have hbig := hcon.big
    have hlec := hcon.le
    refine CWI.seq (F := [(0, .func (.yield l) #[] #[]), (1, .pointer (some ⟨g1, 0, none⟩)), (2, .pointer (some ⟨g2, 0, none⟩)), (4, .int .i64 ((k * 1024 : Nat) : Int))]) (CWI.seq (CWI.region ?_)) a hf
    refine WRI.batch 1 [(0, .func (.yield l) #[] #[]), (1, .pointer (some ⟨g1, 0, none⟩)), (2, .pointer (some ⟨g2, 0, none⟩)), (4, .int .i64 ((k * 1024 : Nat) : Int)), (6, .int .i64 ((k * 1024 : Nat) : Int))] (by kernel_rfl) ?_
    refine WRI.load1 (dst := some 7) (t := 22) (a := ⟨g1, 0, none⟩) (by kernel_rfl) (by kernel_rfl) (.slice ad len cap) (by unfold World.cell?; have hb : W.heap[g1]? = _ := hcon.b1; simp [hb]) ?_
    refine WRI.batch 2 [(0, .func (.yield l) #[] #[]), (1, .pointer (some ⟨g1, 0, none⟩)), (2, .pointer (some ⟨g2, 0, none⟩)), (4, .int .i64 ((k * 1024 : Nat) : Int)), (9, .bool (decide (((k * 1024 : Nat) : Int) < (len : Int))))] (by kernel_rfl) ?_
    refine WRI.fin (by kernel_rfl) fun a ha => ⟨_, ha, ?_⟩
    refine CWI.cond (decide (((k * 1024 : Nat) : Int) < (len : Int))) (by kernel_rfl) (fun ht => CWI.skip fun a ha => ⟨_, ha, ?_⟩) fun hf => CWI.exit fun a ha => ?_
    · have hlt : k * 1024 < len := by have := of_decide_eq_true ht; omega
      have hkN : k < N := by omega
      refine CWI.seq (CWI.block (CWI.seq (CWI.regionQ (by kernel_rfl) (by kernel_rfl) ?_)))
      refine WQ.load1' (dst := some 13) (t := 3) (a := ⟨g2, 0, none⟩) (by kernel_rfl) (by kernel_rfl) (.int .i64 1024) (by unfold World.cell?; have hb : W.heap[g2]? = _ := hcon.b2; simp [hb]) ?_
      refine WQ.load1' (dst := some 14) (t := 22) (a := ⟨g1, 0, none⟩) (by kernel_rfl) (by kernel_rfl) (.slice ad len cap) (by unfold World.cell?; have hb : W.heap[g1]? = _ := hcon.b1; simp [hb]) ?_
      refine WQ.val (dst := some 15) (.int .i64 ((k * 1024 : Nat) : Int)) (fun w => by kernel_rfl) ?_
      refine WQ.sliceL (dst := some 16) (t := 22) (ad := ad) (m := len) (cap := cap) (kl := .i64) (l := ((k * 1024 : Nat) : Int)) (by kernel_rfl) eiU8 (by omega) (by omega) ?_
      refine WQ.val (dst := some 17) (.int .i64 ((len - k * 1024 : Nat) : Int)) (fun w => by kernel_rfl) ?_
      refine WQ.val (dst := some 18) (.int .i64 (if ((len - k * 1024 : Nat) : Int) < 1024 then ((len - k * 1024 : Nat) : Int) else 1024)) (fun w => by kernel_rfl) ?_
      have hif : (if ((len - k * 1024 : Nat) : Int) < 1024 then ((len - k * 1024 : Nat) : Int) else 1024) = ((pcN len k : Nat) : Int) := by
        unfold pcN
        split <;> omega
      rw [hif]
      refine WQ.val (dst := some 5) (.int .i64 ((pcN len k : Nat) : Int)) (fun w => by kernel_rfl) ?_
      refine WQ.keep [0, 1, 2, 4, 5] (F' := [(0, .func (.yield l) #[] #[]), (1, .pointer (some ⟨g1, 0, none⟩)), (2, .pointer (some ⟨g2, 0, none⟩)), (4, .int .i64 ((k * 1024 : Nat) : Int)), (5, .int .i64 ((pcN len k : Nat) : Int))]) (by kernel_rfl) ?_
      refine WQ.fin (w := W) (by kernel_rfl) fun W0 hW0 a ha => ⟨_, ha, ?_⟩
      obtain ⟨ad', cap', len', hcon', hy⟩ := hround k W0 hkN (hpure k W W0 hJ hW0)
      have he : ad' = ad ∧ len' = len ∧ cap' = cap := by
        have h1 : W0.heap[g1]? = _ := hcon'.b1
        have h2 : W0.heap[g1]? = _ := hcon.b1.pure hW0
        rw [h1] at h2
        simpa using h2
      obtain ⟨rfl, rfl, rfl⟩ := he
      have hpos : 0 < pcN len' k ∧ k * 1024 + pcN len' k ≤ len' := by unfold pcN; omega
      have hwr : IntKind.i64.wrap (((k * 1024 : Nat) : Int) + ((pcN len' k : Nat) : Int)) = ((k * 1024 + pcN len' k : Nat) : Int) := by
        show IntKind.wrap _ _ = _
        unfold IntKind.wrap
        simp [IntKind.signed, IntKind.bits]
        omega
      refine CWI.seq (CWI.region ?_)
      refine WRI.batch 1 [(0, .func (.yield l) #[] #[]), (1, .pointer (some ⟨g1, 0, none⟩)), (2, .pointer (some ⟨g2, 0, none⟩)), (4, .int .i64 ((k * 1024 : Nat) : Int)), (5, .int .i64 ((pcN len' k : Nat) : Int)), (19, .func (.yield l) #[] #[])] (by kernel_rfl) ?_
      refine WRI.load1 (dst := some 20) (t := 22) (a := ⟨g1, 0, none⟩) (by kernel_rfl) (by kernel_rfl) (.slice ad' len' cap') (by unfold World.cell?; have hb : W0.heap[g1]? = _ := hcon'.b1; simp [hb]) ?_
      refine WRI.batch 7 [(0, .func (.yield l) #[] #[]), (1, .pointer (some ⟨g1, 0, none⟩)), (2, .pointer (some ⟨g2, 0, none⟩)), (4, .int .i64 ((k * 1024 : Nat) : Int)), (19, .func (.yield l) #[] #[]), (20, .slice ad' len' cap'), (21, .int .i64 ((k * 1024 : Nat) : Int)), (24, .int .i64 (IntKind.i64.wrap (((k * 1024 : Nat) : Int) + ((pcN len' k : Nat) : Int)))), (27, .int .i64 (IntKind.i64.wrap (((k * 1024 : Nat) : Int) + ((pcN len' k : Nat) : Int))))] (by kernel_rfl) ?_
      rw [hwr]
      refine WRI.slice3 (dst := some 28) (t := 22) (ad := ad') (m := len') (cap := cap') (kl := .i64) (kh := .i64) (km := .i64) (l := ((k * 1024 : Nat) : Int)) (h := ((k * 1024 + pcN len' k : Nat) : Int)) (mx := ((k * 1024 + pcN len' k : Nat) : Int)) (by kernel_rfl) eiU8 (by omega) (by omega) (by omega) (by omega) ?_
      refine WRI.yield (dst := some 29) (l := l) (us := [pcV ad' len' k]) (by kernel_rfl) hy (fun e w' h => ⟨_, h.1⟩) ?_
      rintro v W' ⟨hv, hJ'⟩
      cases hv
      have hb2 : Blk W' g2 #[.int .i64 1024] 3 := by
        rcases Nat.lt_or_eq_of_le (Nat.succ_le_of_lt hkN) with h | h
        · obtain ⟨_, _, _, h1, _⟩ := hround (k + 1) W' h hJ'; exact h1.b2
        · obtain ⟨_, _, _, h1⟩ := hend W' (h ▸ hJ'); exact h1.b2
      refine WRI.batch 1 [(0, .func (.yield l) #[] #[]), (1, .pointer (some ⟨g1, 0, none⟩)), (2, .pointer (some ⟨g2, 0, none⟩)), (4, .int .i64 ((k * 1024 : Nat) : Int)), (30, .bool false)] (by kernel_rfl) ?_
      refine WRI.fin (by kernel_rfl) fun a ha => ⟨_, ha, ?_⟩
      refine CWI.cond false (by kernel_rfl) (fun h => (by cases h)) fun _ => CWI.skip fun a ha => ⟨_, ha, ?_⟩
      refine CWI.region ?_
      refine WRI.batch 1 [(0, .func (.yield l) #[] #[]), (1, .pointer (some ⟨g1, 0, none⟩)), (2, .pointer (some ⟨g2, 0, none⟩)), (10, .int .i64 ((k * 1024 : Nat) : Int))] (by kernel_rfl) ?_
      refine WRI.load1 (dst := some 11) (t := 3) (a := ⟨g2, 0, none⟩) (by kernel_rfl) (by kernel_rfl) (.int .i64 1024) (by unfold World.cell?; have hb : W'.heap[g2]? = _ := hb2; simp [hb]) ?_
      refine WRI.batch 2 [(0, .func (.yield l) #[] #[]), (1, .pointer (some ⟨g1, 0, none⟩)), (2, .pointer (some ⟨g2, 0, none⟩)), (4, .int .i64 (IntKind.i64.wrap (((k * 1024 : Nat) : Int) + 1024)))] (by kernel_rfl) ?_
      have hw2 : IntKind.i64.wrap (((k * 1024 : Nat) : Int) + 1024) = (((k + 1) * 1024 : Nat) : Int) := by
        show IntKind.wrap _ _ = _
        unfold IntKind.wrap
        simp [IntKind.signed, IntKind.bits]
        omega
      rw [hw2]
      refine WRI.fin (by kernel_rfl) fun a ha => ⟨⟨k + 1, by omega, hJ', ha⟩, ?_⟩
      rw [(ha.val 4 (.int .i64 (((k + 1) * 1024 : Nat) : Int)) rfl).1]
      show (((N * 1024 : Nat) : Int) - (((k + 1) * 1024 : Nat) : Int)).toNat < (((N * 1024 : Nat) : Int) - ((k * 1024 : Nat) : Int)).toNat
      omega
    · have hge : ¬ ((k * 1024 : Nat) : Int) < (len : Int) := of_decide_eq_false hf
      have hk' : k = N := by omega
      show Exit.inBlock 0 (bodyPostM Fence.wide 0 Try.prog Try.f25 fun e W' => (∃ v, e = .returned v) ∧ J N W') (.exit 0) a W
      refine inBlock_exit ?_
      show LeavesInM Fence.wide 0 Try.prog Try.f25 a.tmps _ a.defers .returning W
      rw [ha.defers]
      exact ⟨.tuple #[], by kernel_rfl, ⟨_, rfl⟩, hk' ▸ hJ⟩
  exact calls_of_CWI Try.func25 (show Try.f25.body = some (bodyOf Try.f25) by kernel_rfl) Try.ntmps25 (by kernel_rfl) [0, 1, 2] (by kernel_rfl) key
section
variable {w0 w : World} {S0 : Ow} {F : AF TT} {H : List (Ent TT.U)} {F' : PF} {S : List Nat} {φ : Nat → RA}
theorem list_blk (hs : Sim TT w0 S0 ⟨F, H⟩ F' w S φ) {i : Nat} {t : TypeId} {b : List Int} (hi : H[i]? = some (.blk t [.cell ⟨.list (.int .u8), b⟩])) {g : Nat} (hg : (φ i).ad = some ⟨g, 0, none⟩) :
    ∃ ad cap, Blk w g #[.slice ad b.length cap] t ∧ b.length ≤ cap ∧ CR TT w S (.list (.int .u8)) b (.slice ad b.length cap) ∧ (ad = none → b.length = 0) := by
  obtain ⟨g', c, h1, h2, _, h4⟩ := hs.ents i _ hi
  rw [hg] at h1; simp only [Option.some.injEq, Addr.mk.injEq, and_true] at h1; subst h1
  have h5 := h4.vrl TT rfl
  match hc : c.toList, h5 with
  | [v], h5 =>
    have h6 : CR TT w S (.list (.int .u8)) b v := h5.1
    obtain ⟨ad, cap, rfl, q1, q2⟩ := h6.form
    have : c = #[Value.slice ad (List.length (α := Int) b) cap] := Array.toList_inj.1 (by rw [hc]; rfl)
    exact ⟨ad, cap, by rw [← this]; exact h2, q1, h6, fun h => (q2 h).1⟩
  | [], h5 => exact h5.elim
  | _ :: _ :: _, h5 => exact h5.2.elim
theorem piece_cr {b : List Int} {ad : Option Addr} {cap k : Nat} (h : CR TT w S (.list (.int .u8)) b (.slice ad b.length cap)) (hle : b.length ≤ cap) (hn : ad = none → b.length = 0) (hk : k * 1024 < b.length) : CR TT w S (.list (.int .u8)) (List.take 1024 (List.drop (k * 1024) b)) (pcV ad b.length k) := by
  have e0 : List.take 1024 (List.drop (k * 1024) b) = (b.drop (k * 1024)).take (pcN b.length k) := by
    unfold pcN
    rw [← List.length_drop, ← List.take_eq_take_min]
  have hp : 0 < pcN b.length k ∧ k * 1024 + pcN b.length k ≤ b.length := by unfold pcN; omega
  have h1 := CR.sub h hp.2
  have hlen : ((b.drop (k * 1024)).take (pcN b.length k)).length = pcN b.length k := by rw [List.length_take, List.length_drop]; omega
  have had : ad ≠ none := fun e => by have := hn e; omega
  suffices hx : ∀ xs : List Int, xs = (b.drop (k * 1024)).take (pcN b.length k) → CR TT w S (.list (.int .u8)) xs (pcV ad b.length k) from hx _ e0
  intro xs hxs
  subst hxs
  have e1 : pcV ad b.length k = .slice (cutAd ad cap (k * 1024) 1) (pcN b.length k) (pcN b.length k) := by
    unfold pcV sliced cutAd
    rw [if_neg (by omega), if_neg (by omega), Nat.add_sub_cancel_left]
  rw [e1]
  have h2 : CR TT w S (.list (.int .u8)) ((b.drop (k * 1024)).take (pcN b.length k)) (.slice (cutAd ad cap (k * 1024) 1) (List.length (α := Int) ((b.drop (k * 1024)).take (pcN b.length k))) (cap - k * 1024)) := by
    rw [hlen]; exact h1
  have h3 : CR TT w S (.list (.int .u8)) ((b.drop (k * 1024)).take (pcN b.length k)) (.slice (cutAd ad cap (k * 1024) 1) (List.length (α := Int) ((b.drop (k * 1024)).take (pcN b.length k))) (pcN b.length k)) := h2.room (c' := pcN b.length k) (Nat.le_of_eq hlen) (fun e => by
    unfold cutAd at e
    split at e
    · exact absurd e had
    · cases ad with
      | none => exact absurd rfl had
      | some _ => cases e)
  rw [hlen] at h3
  exact h3
end
theorem chunk_it : ItOk TT Try.prog 25 (itCh 22 3) := by
  intro caps H N hc0 w0 S0 F F' w S φ vb hs hv
  have hc : (match rdCh 22 3 H caps with | some (b, n) => forkB (decide (n = 1024) && Nat.ble b.length 1099511627776) (some ((b.length + 1023) / 1024)) none | none => none) = some N := hc0
  clear hc0
  split at hc <;> try (cases hc; done)
  rename_i b n hr
  obtain ⟨i, j, rfl, hi, hj⟩ := rdCh_spec hr
  match vb, hv with
  | [v1, v2], hv =>
    obtain ⟨⟨g1, a1, rfl⟩, ⟨g2, a2, rfl⟩, _⟩ := hv
    have hcon : ∀ (H1 : List (Ent TT.U)) (w0 : World) (S0 : Ow) (F : AF TT) (F' : PF) (w1 : World) (S1 : List Nat) (φ1 : Nat → RA), chkT ((itCh 22 3).chk [.ptr i 0, .ptr j 0] H1 N) → Sim TT w0 S0 ⟨F, H1⟩ F' w1 S1 φ1 → VRL TT w1 S1 φ1 [.ptr i 0, .ptr j 0] [.pointer (some ⟨g1, 0, none⟩), .pointer (some ⟨g2, 0, none⟩)] →
        ∃ b ad cap, rdCh 22 3 H1 [.ptr i 0, .ptr j 0] = some (b, 1024) ∧ ChCon w1 g1 g2 N ad cap b.length ∧ CR TT w1 S1 (.list (.int .u8)) b (.slice ad b.length cap) ∧ (ad = none → b.length = 0) := by
      intro H1 w0 S0 F F' w1 S1 φ1 hk hs1 hv1
      have hk : chkT (match rdCh 22 3 H1 [.ptr i 0, .ptr j 0] with | some (b, n) => some (decide (n = 1024) && (Nat.beq ((b.length + 1023) / 1024) N && Nat.ble b.length 1099511627776)) | none => some false) := hk
      cases hr1 : rdCh 22 3 H1 [.ptr i 0, .ptr j 0] with
      | none => rw [hr1] at hk; cases hk
      | some bn =>
        obtain ⟨b1, n1⟩ := bn
        rw [hr1] at hk
        have hk : (decide (n1 = 1024) && (Nat.beq ((b1.length + 1023) / 1024) N && Nat.ble b1.length 1099511627776)) = true := hk
        rw [Bool.and_eq_true, Bool.and_eq_true] at hk
        obtain ⟨k1, k2, k3⟩ := hk
        have k1 := of_decide_eq_true k1; subst k1
        obtain ⟨i', j', e, hi1, hj1⟩ := rdCh_spec hr1
        simp only [List.cons.injEq, AV.ptr.injEq, and_true] at e
        obtain ⟨rfl, rfl⟩ := e
        obtain ⟨⟨g1', a1', e1⟩, ⟨g2', a2', e2⟩, _⟩ := hv1
        simp only [Value.pointer.injEq, Option.some.injEq, Addr.mk.injEq, and_true] at e1 e2
        subst e1; subst e2
        obtain ⟨ad, cap, c1, c2, c3, c4⟩ := list_blk hs1 hi1 a1'
        exact ⟨b1, ad, cap, rfl, ⟨c1, cell_blk hs1 hj1 a2', Nat.eq_of_beq_eq_true k2, c2, Nat.le_of_ble_eq_true k3⟩, c3, c4⟩
    refine ⟨fun k W us => k < N → ∃ ad cap len, ChCon W g1 g2 N ad cap len ∧ us = [pcV ad len k], fun W => ∃ ad cap len, ChCon W g1 g2 N ad cap len, ?_, ?_, ?_⟩
    · intro k H1 v w0 S0 F F' w1 S1 φ1 hk hit hs1 hv1
      obtain ⟨b1, ad, cap, q1, q2, q3, q4⟩ := hcon H1 w0 S0 F F' w1 S1 φ1 hk hs1 hv1
      have hit : (match rdCh 22 3 H1 [.ptr i 0, .ptr j 0] with | some (b, _) => some [AV.cell ⟨.list (.int .u8), List.take 1024 (List.drop (k * 1024) b)⟩] | none => none) = some v := hit
      rw [q1] at hit
      simp only [Option.some.injEq] at hit; subst hit
      have hok : ∀ a ∈ ([AV.cell ⟨.list (.int .u8), List.take 1024 (List.drop (k * 1024) b1)⟩] : List (AV TT.U)), okA H1 a := fun a ha => by
        simp only [List.mem_cons, List.not_mem_nil, or_false] at ha
        subst ha; exact okA_notEp rfl (by intro i hi; cases hi)
      by_cases hkN : k < N
      · have hcnt := q2.cnt
        exact ⟨[pcV ad b1.length k], fun _ => ⟨ad, cap, _, q2, rfl⟩, ⟨piece_cr q3 q2.le q4 (by omega), trivial⟩, hok⟩
      · have hcnt := q2.cnt
        have e : List.take 1024 (List.drop (k * 1024) b1) = [] := by rw [List.drop_eq_nil_of_le (by omega)]; rfl
        refine ⟨[.slice none 0 0], fun h => absurd h hkN, ⟨?_, trivial⟩, hok⟩
        have hn : ∀ xs : List Int, xs = [] → CR TT w1 S1 (.list (.int .u8)) xs (.slice none 0 0) := fun xs h => by subst h; exact CR.nilS
        exact hn _ e
    · intro H1 w0 S0 F F' w1 S1 φ1 hk hs1 hv1
      obtain ⟨b1, ad, cap, _, q2, _⟩ := hcon H1 w0 S0 F F' w1 S1 φ1 hk hs1 hv1
      exact ⟨ad, cap, _, q2⟩
    · intro l J hround hend hpure h0
      refine chunk_run g1 g2 l N J w (fun k W hk hJ => ?_) hend hpure h0
      obtain ⟨us, h1, h2⟩ := hround k W hk hJ
      obtain ⟨ad, cap, len, q, rfl⟩ := h1 hk
      exact ⟨ad, cap, len, q, h2⟩

end Go.X

/- The law ChunkWhole. -/
namespace Go.X
open Go.RowKit Go.V Go.Proofs
def str0 : ByteArray := ⟨#[99, 97, 110, 110, 111, 116, 32, 98, 101, 32, 108, 101, 115, 115, 32, 116, 104, 97, 110, 32, 49]⟩
noncomputable def slicesChunk_g1_C : Ctx TT := ⟨tyOf, [], 0, [], layOf, drOf, pmOf⟩
theorem slicesChunk_g1_env : EnvOk TT Try.prog slicesChunk_g1_C.E := envNil
def slicesChunk_g1_cuts : List (Pos × Cut) := []
noncomputable def slicesChunk_g1 (n : Nat) (x0 : List Int) (x1 : Int) : Option ((Unit) × ((((Unit) × ((List Int × Unit) × (Int × Unit) × Unit)) × Unit) ⊕ (ByteArray × Unit))) := topP TT Try.prog slicesChunk_g1_C slicesChunk_g1_cuts Try.f20 (bodyOf Try.f20) ⟨[], [], [], [], []⟩ [.val (.list (.int .u8)), .val (.int .i64)] [] [.fn 25 [] [.ptr 0 22 [.val (.list (.int .u8))], .ptr 0 3 [.val (.int .i64)]]] (.ifc 9 (.val (.str))) n (x0, x1, ())
theorem slicesChunk_g1_eq (n : Nat) (x0 : List Int) (x1 : Int) : slicesChunk_g1 n x0 x1 =
  forkB (decide (x1 < (1 : Int)))
  (some ((), .inr (str0, ())))
  (some ((), .inl (((), ((x0, ()), (x1, ()), ())), ()))) := by kernel_rfl
noncomputable def slicesChunk_g1_sp : PSpec TT := ⟨[.val (.list (.int .u8)), .val (.int .i64)], [], [.fn 25 [] [.ptr 0 22 [.val (.list (.int .u8))], .ptr 0 3 [.val (.int .i64)]]], .ifc 9 (.val (.str)), fun x => slicesChunk_g1 BIG x.1 x.2.1⟩
theorem slicesChunk_g1_ok : POk TT Try.prog 20 slicesChunk_g1_sp := pOk_of (C := slicesChunk_g1_C) (cuts := slicesChunk_g1_cuts) (by kernel_rfl) slicesChunk_g1_env Try.func20 (show Try.f20.body = some (bodyOf Try.f20) by kernel_rfl) (by kernel_rfl) (by kernel_rfl) (by kernel_rfl) fun x y h => ⟨BIG, h⟩
noncomputable def chunkCut_g1_C : Ctx TT := ⟨tyOf, [(20, slicesChunk_g1_sp.toCall (noCall TT)), (16, bytesClone_sp.toCall)], 0, [(4, 1)], layOf, drOf, pmOf⟩
theorem chunkCut_g1_env : EnvOk TT Try.prog chunkCut_g1_C.E := envG (pCall_ok slicesChunk_g1_ok (noCall_ok 20)) (envG (fnCall_ok bytesClone_ok) (envNil))
noncomputable def chunkCut_g1_RU : RuP TT := ⟨2, 1, 25, .inl (itCh 22 3), [6, 2, 3], [(0, 0, 22, .list (.int .u8))], some 3⟩
noncomputable def chunkCut_g1 (x0 : List Int) : Option ((Unit) × (List (List Int) × Unit)) := topU TT Try.prog chunkCut_g1_C Try.f9 (bodyOf Try.f9) ⟨[], [], [], [], []⟩ [.val (.list (.int .u8))] [] [.row 22 (.list (.int .u8))] chunkCut_g1_RU (x0, ())
noncomputable def chunkCut_g1_R0 (m k : Nat) (b1_0 : List Int) (b2_0 : Int) (r3 : List (List Int)) : Option ((Unit) × (List (List Int) × Unit)) := roundsU TT Try.prog chunkCut_g1_C Try.f9 (bodyOf Try.f9) ⟨[], [], [], [], []⟩ [] [.row 22 (.list (.int .u8))] chunkCut_g1_RU [.ptr 1 0, .ptr 2 0] m k (⟨[(6, .fn (.func 25) [] [.ptr 1 0, .ptr 2 0]), (2, .raw (.slice none 0 0)), (3, .ptr 0 0)], [.blk 38 [.own 3], .blk 22 [.cell ⟨.list (.int .u8), b1_0⟩], .blk 3 [.cell ⟨.int .i64, b2_0⟩], .row 22 (.list (.int .u8)) r3]⟩ : St TT)
theorem chunkCut_g1_R0_zero (k : Nat) (b1_0 : List Int) (b2_0 : Int) (r3 : List (List Int)) : chunkCut_g1_R0 0 k b1_0 b2_0 r3 =
  forkB (decide (b2_0 = 1024) && (Nat.beq ((((b1_0).length) + 1023) / 1024) k && Nat.ble ((b1_0).length) 1099511627776))
  (some ((), (r3, ())))
  (none) := by kernel_rfl
theorem chunkCut_g1_R0_succ (m k : Nat) (b1_0 : List Int) (b2_0 : Int) (r3 : List (List Int)) : chunkCut_g1_R0 (m + 1) k b1_0 b2_0 r3 =
  forkB (decide (b2_0 = 1024) && (Nat.beq ((((b1_0).length) + 1023) / 1024) (k + (m + 1)) && Nat.ble ((b1_0).length) 1099511627776))
  (obind (bytesClone BIG (List.take 1024 (List.drop (k * 1024) b1_0))) fun y1 =>
   if (r3.length + 1) * 24 ≤ 140737488355328 then (chunkCut_g1_R0 m (k + 1) b1_0 b2_0 (r3 ++ ([y1] : List (List Int)))) else none)
  (none) := by kernel_rfl
theorem chunkCut_g1_eq (x0 : List Int) : chunkCut_g1 x0 =
  obind (slicesChunk_g1 BIG x0 (1024 : Int)) fun y1 => match y1.2 with
  | .inl z1 => (match forkB (decide (z1.1.2.2.1.1 = 1024) && Nat.ble ((z1.1.2.1.1).length) 1099511627776) (some ((((z1.1.2.1.1).length) + 1023) / 1024)) none with
   | some N => chunkCut_g1_R0 N 0 z1.1.2.1.1 z1.1.2.2.1.1 ([] : List (List Int))
   | none => none)
  | .inr e1 => (none) := by kernel_rfl
noncomputable def chunkCut_g1_sp : GSpec TT := ⟨[.val (.list (.int .u8))], [], [.row 22 (.list (.int .u8))], fun x => chunkCut_g1 x.1⟩
theorem chunkCut_g1_ok : GOk TT Try.prog 9 chunkCut_g1_sp := gOkU_of (C := chunkCut_g1_C) (D := chunkCut_g1_RU) (by kernel_rfl) chunkCut_g1_env Try.func9 (show Try.f9.body = some (bodyOf Try.f9) by kernel_rfl) (by kernel_rfl) (by kernel_rfl) (by kernel_rfl) (show RuP.ok Try.prog chunkCut_g1_RU from chunk_it) fun x y h => h
noncomputable def kitSameBytes_C : Ctx TT := ⟨tyOf, [], 0, [], layOf, drOf, pmOf⟩
theorem kitSameBytes_env : EnvOk TT Try.prog kitSameBytes_C.E := envNil
def kitSameBytes_cuts : List (Pos × Cut) := [([false, true, false, true, true], ⟨[0, 1, 5], [], false, [], 0, false⟩)]
noncomputable def kitSameBytes (n : Nat) (x0 : List Int) (x1 : List Int) : Option (Bool) := topF TT Try.prog kitSameBytes_C kitSameBytes_cuts Try.f10 (bodyOf Try.f10) ⟨[], []⟩ [.val (.list (.int .u8)), .val (.list (.int .u8))] [.val (.bool)] n (x0, x1)
noncomputable def kitSameBytes_L0 (n : Nat) (s0 : List Int) (s1 : List Int) (s5 : Int) : Option (Bool) := cutF TT Try.prog kitSameBytes_C kitSameBytes_cuts Try.f10 (bodyOf Try.f10) ⟨[], []⟩ [.val (.list (.int .u8)), .val (.list (.int .u8))] [.val (.bool)] n [false, true, false, true, true] ⟨[(0, .cell ⟨.list (.int .u8), s0⟩), (1, .cell ⟨.list (.int .u8), s1⟩), (5, .cell ⟨.int .i64, s5⟩)], []⟩
theorem kitSameBytes_eq (n : Nat) (x0 : List Int) (x1 : List Int) : kitSameBytes n x0 x1 =
  forkB (((x0.length : Nat) : Int) != ((x1.length : Nat) : Int))
  (some false)
  (kitSameBytes_L0 n x0 x1 (0 : Int)) := by kernel_rfl
theorem kitSameBytes_L0_eq (n : Nat) (s0 : List Int) (s1 : List Int) (s5 : Int) : kitSameBytes_L0 (n + 1) s0 s1 s5 =
  forkB (decide (s5 < ((s0.length : Nat) : Int)))
  (if 0 ≤ s5 ∧ s5 < ((s0.length : Nat) : Int) then (if 0 ≤ s5 ∧ s5 < ((s1.length : Nat) : Int) then (forkB ((s0.getD s5.toNat (0 : Int)) != (s1.getD s5.toNat (0 : Int)))
   (some false)
   (kitSameBytes_L0 n s0 s1 (IntKind.i64.wrap (s5 + (1 : Int))))) else none) else none)
  (some true) := by kernel_rfl
noncomputable def kitSameBytes_sp : FnSpec TT := ⟨[.val (.list (.int .u8)), .val (.list (.int .u8))], [.val (.bool)], fun x => kitSameBytes BIG x.1 x.2⟩
theorem kitSameBytes_ok : FnOk TT Try.prog 10 kitSameBytes_sp := fnOk_of (C := kitSameBytes_C) (by kernel_rfl) kitSameBytes_env Try.func10 (show Try.f10.body = some (bodyOf Try.f10) by kernel_rfl) (by kernel_rfl) (by kernel_rfl) (cuts := kitSameBytes_cuts) fun x y h => ⟨BIG, h⟩
noncomputable def kitPick_C : Ctx TT := ⟨tyOf, [], 0, [], layOf, drOf, pmOf⟩
theorem kitPick_env : EnvOk TT Try.prog kitPick_C.E := envNil
def kitPick_cuts : List (Pos × Cut) := []
noncomputable def kitPick (n : Nat) (x0 : Int) (x1 : Int) : Option (Int) := topF TT Try.prog kitPick_C kitPick_cuts Try.f12 (bodyOf Try.f12) ⟨[], []⟩ [.val (.int .i64), .val (.int .i64)] [.val (.int .i64)] n (x0, x1)
theorem kitPick_eq (n : Nat) (x0 : Int) (x1 : Int) : kitPick n x0 x1 =
  forkB (decide (x1 < (1 : Int)))
  (some (0 : Int))
  (if x1 = 0 then none else (forkB (decide ((x0.tmod x1) < (0 : Int)))
   (some (IntKind.i64.wrap ((x0.tmod x1) + x1)))
   (some (x0.tmod x1)))) := by kernel_rfl
noncomputable def kitPick_sp : FnSpec TT := ⟨[.val (.int .i64), .val (.int .i64)], [.val (.int .i64)], fun x => kitPick BIG x.1 x.2⟩
theorem kitPick_ok : FnOk TT Try.prog 12 kitPick_sp := fnOk_of (C := kitPick_C) (by kernel_rfl) kitPick_env Try.func12 (show Try.f12.body = some (bodyOf Try.f12) by kernel_rfl) (by kernel_rfl) (by kernel_rfl) (cuts := kitPick_cuts) fun x y h => ⟨BIG, h⟩
noncomputable def chunkBoardDrop_g3_C : Ctx TT := ⟨tyOf, [(13, chunkBoard_known_g3_sp.toCall (chunkBoard_known_g2_sp.toCall (chunkBoard_known_g1_sp.toCall (noCall TT))))], 2, [], layOf, drOf, pmOf⟩
theorem chunkBoardDrop_g3_env : EnvOk TT Try.prog chunkBoardDrop_g3_C.E := envG (gCall_ok chunkBoard_known_g3_ok (gCall_ok chunkBoard_known_g2_ok (gCall_ok chunkBoard_known_g1_ok (noCall_ok 13)))) (envNil)
def chunkBoardDrop_g3_cuts : List (Pos × Cut) := []
noncomputable def chunkBoardDrop_g3 (n : Nat) (x0 : List (Int × Upload)) (x1 : Int) : Option (((Unit × Unit) × (List (Int × Upload)) × Unit) × (Int × Unit)) := topG TT Try.prog chunkBoardDrop_g3_C chunkBoardDrop_g3_cuts Try.f7 (bodyOf Try.f7) ⟨[], [], [(0, 0, 4000000001, .bool)], [], []⟩ [.ptr 0 28 [.pm .i64 49 0], .val (.int .i64)] [.blk 28 [.mpo 1], .pm .i64 49 0] [.val (.int .i64)] n ((x0, ()), x1, ())
theorem chunkBoardDrop_g3_eq (n : Nat) (x0 : List (Int × Upload)) (x1 : Int) : chunkBoardDrop_g3 n x0 x1 =
  obind (chunkBoard_known_g1 BIG x0) fun y1 =>
  forkB (!y1.2.1)
  (some ((((), ()), y1.1.2.1, ()), ((1 : Int), ())))
  (forkB (thas y1.1.2.1 x1)
   (if x1 = x1 then (some ((((), ()), tdel y1.1.2.1 x1, ()), ((0 : Int), ()))) else none)
   (some ((((), ()), y1.1.2.1, ()), ((6 : Int), ())))) := by kernel_rfl
noncomputable def chunkBoardDrop_g3_sp : GSpec TT := ⟨[.ptr 0 28 [.pm .i64 49 0], .val (.int .i64)], [.blk 28 [.mpo 1], .pm .i64 49 0], [.val (.int .i64)], fun x => chunkBoardDrop_g3 BIG x.1.1 x.2.1⟩
theorem chunkBoardDrop_g3_ok : GOk TT Try.prog 7 chunkBoardDrop_g3_sp := gOk_of (C := chunkBoardDrop_g3_C) (cuts := chunkBoardDrop_g3_cuts) (by kernel_rfl) chunkBoardDrop_g3_env Try.func7 (show Try.f7.body = some (bodyOf Try.f7) by kernel_rfl) (by kernel_rfl) (by kernel_rfl) (by kernel_rfl) fun x y h => ⟨BIG, h⟩
noncomputable def law20ChunkWhole_C : Ctx TT := ⟨tyOf, [(8, law20_awake_sp.toCall), (9, chunkCut_g1_sp.toCall (noCall TT)), (10, kitSameBytes_sp.toCall), (11, chunkNew_g1_sp.toCall (noCall TT)), (12, kitPick_sp.toCall), (5, chunkBoardPut_g4_sp.toCall (chunkBoardPut_g3_sp.toCall (chunkBoardPut_g2_sp.toCall (chunkBoardPut_g1_sp.toCall (noCall TT))))), (7, chunkBoardDrop_g3_sp.toCall (chunkBoardDrop_g2_sp.toCall (chunkBoardDrop_g1_sp.toCall (noCall TT))))], 0, [], layOf, drOf, pmOf⟩
theorem law20ChunkWhole_env : EnvOk TT Try.prog law20ChunkWhole_C.E := envG (fnCall_ok law20_awake_ok) (envG (gCall_ok chunkCut_g1_ok (noCall_ok 9)) (envG (fnCall_ok kitSameBytes_ok) (envG (gCall_ok chunkNew_g1_ok (noCall_ok 11)) (envG (fnCall_ok kitPick_ok) (envG (gCall_ok chunkBoardPut_g4_ok (gCall_ok chunkBoardPut_g3_ok (gCall_ok chunkBoardPut_g2_ok (gCall_ok chunkBoardPut_g1_ok (noCall_ok 5))))) (envG (gCall_ok chunkBoardDrop_g3_ok (gCall_ok chunkBoardDrop_g2_ok (gCall_ok chunkBoardDrop_g1_ok (noCall_ok 7)))) (envNil)))))))
def law20ChunkWhole_cuts : List (Pos × Cut) := [([false, true, true], ⟨[0, 1, 2, 49], [], false, [], 0, false⟩), ([false, true, false, true, true, true, true, true], ⟨[0, 2, 7, 8, 9, 10], [(9, 5, .int .u8)], false, [], 0, false⟩), ([false, true, true, true, true, true, true], ⟨[0, 2, 7, 8, 78], [], false, [], 0, false⟩), ([false, true, false, true, true, true, true, true, true, true, true], ⟨[0, 7, 8, 11, 12], [], false, [], 0, false⟩), ([false, true, false, true, true, true, true, true, true, true, true, true, true, true, true], ⟨[0, 7, 8, 11, 13, 14, 15, 16], [], false, [], 0, false⟩), ([false, false, false, true, false, true, true, true, true, true, true, true, true, true, true, true, true], ⟨[0, 7, 8, 11, 13, 14, 15, 16, 105], [], false, [], 0, false⟩), ([true, false, false, true, false, false, true, false, true, true, true, true, true, true, true, true, true, true, true, true], ⟨[0, 7, 8, 11, 13, 14, 15, 16, 17], [], false, [], 0, false⟩), ([true, false, true, true, false, true, false, true, false, false, true, false, false, true, false, true, true, true, true, true, true, true, true, true, true, true, true], ⟨[0, 7, 8, 11, 13, 14, 15, 16, 17, 148], [], false, [], 0, false⟩), ([true, true, false, false, true, false, false, true, false, true, true, true, true, true, true, true, true, true, true, true, true], ⟨[0, 7, 8, 11, 13, 14, 15, 16, 17], [], false, [], 0, false⟩), ([true, true, true, true, false, false, true, false, false, true, false, true, true, true, true, true, true, true, true, true, true, true, true], ⟨[0, 7, 8, 11, 13, 14, 15, 16, 191], [], false, [], 0, false⟩), ([false, true, true, true, true, true, true, true, true, true, true, true, true, true], ⟨[0, 13, 198], [], false, [], 0, false⟩)]
noncomputable def law20ChunkWhole (n : Nat) (x0 : List Int) (x1 : List Int) (x2 : List Int) : Option (Bool) := topF TT Try.prog law20ChunkWhole_C law20ChunkWhole_cuts Try.f4 (bodyOf Try.f4) ⟨[], []⟩ [.val (.list (.int .u8)), .val (.list (.int .u8)), .val (.list (.int .i64))] [.val (.bool)] n (x0, x1, x2)
noncomputable def law20ChunkWhole_J0 (n : Nat) (s0 : List Int) (s1 : List Int) (s2 : List Int) (s49 : Bool) : Option (Bool) := cutF TT Try.prog law20ChunkWhole_C law20ChunkWhole_cuts Try.f4 (bodyOf Try.f4) ⟨[], []⟩ [.val (.list (.int .u8)), .val (.list (.int .u8)), .val (.list (.int .i64))] [.val (.bool)] n [false, true, true] ⟨[(0, .cell ⟨.list (.int .u8), s0⟩), (1, .cell ⟨.list (.int .u8), s1⟩), (2, .cell ⟨.list (.int .i64), s2⟩), (49, .cell ⟨.bool, s49⟩)], []⟩
noncomputable def law20ChunkWhole_L1 (n : Nat) (s0 : List Int) (s2 : List Int) (s10 : Int) (r0 : List (List Int)) (r1 : List (List Int)) (r2 : List Int) : Option (Bool) := cutF TT Try.prog law20ChunkWhole_C law20ChunkWhole_cuts Try.f4 (bodyOf Try.f4) ⟨[], []⟩ [.val (.list (.int .u8)), .val (.list (.int .u8)), .val (.list (.int .i64))] [.val (.bool)] n [false, true, false, true, true, true, true, true] ⟨[(0, .cell ⟨.list (.int .u8), s0⟩), (2, .cell ⟨.list (.int .i64), s2⟩), (7, .own 0), (8, .own 1), (9, .own 2), (10, .cell ⟨.int .i64, s10⟩)], [.row 22 (.list (.int .u8)) r0, .row 22 (.list (.int .u8)) r1, .row 5 (.int .u8) r2]⟩
noncomputable def law20ChunkWhole_J2 (n : Nat) (s0 : List Int) (s2 : List Int) (s78 : Bool) (r0 : List (List Int)) (r1 : List (List Int)) : Option (Bool) := cutF TT Try.prog law20ChunkWhole_C law20ChunkWhole_cuts Try.f4 (bodyOf Try.f4) ⟨[], []⟩ [.val (.list (.int .u8)), .val (.list (.int .u8)), .val (.list (.int .i64))] [.val (.bool)] n [false, true, true, true, true, true, true] ⟨[(0, .cell ⟨.list (.int .u8), s0⟩), (2, .cell ⟨.list (.int .i64), s2⟩), (7, .own 0), (8, .own 1), (78, .cell ⟨.bool, s78⟩)], [.row 22 (.list (.int .u8)) r0, .row 22 (.list (.int .u8)) r1]⟩
noncomputable def law20ChunkWhole_L3 (n : Nat) (s0 : List Int) (s12 : Int) (r0 : List (List Int)) (r1 : List (List Int)) (r2 : List Int) : Option (Bool) := cutF TT Try.prog law20ChunkWhole_C law20ChunkWhole_cuts Try.f4 (bodyOf Try.f4) ⟨[], []⟩ [.val (.list (.int .u8)), .val (.list (.int .u8)), .val (.list (.int .i64))] [.val (.bool)] n [false, true, false, true, true, true, true, true, true, true, true] ⟨[(0, .cell ⟨.list (.int .u8), s0⟩), (7, .own 0), (8, .own 1), (11, .own 2), (12, .cell ⟨.int .i64, s12⟩)], [.row 22 (.list (.int .u8)) r0, .row 22 (.list (.int .u8)) r1, .row 3 (.int .i64) r2]⟩
noncomputable def law20ChunkWhole_L4 (n : Nat) (s0 : List Int) (s15 : Int) (s16 : Int) (r0 : List (List Int)) (r1 : List (List Int)) (r2 : List Int) (r4 : List Bool) (t5 : List (Int × Upload)) : Option (Bool) := cutF TT Try.prog law20ChunkWhole_C law20ChunkWhole_cuts Try.f4 (bodyOf Try.f4) ⟨[], []⟩ [.val (.list (.int .u8)), .val (.list (.int .u8)), .val (.list (.int .i64))] [.val (.bool)] n [false, true, false, true, true, true, true, true, true, true, true, true, true, true, true] ⟨[(0, .cell ⟨.list (.int .u8), s0⟩), (7, .own 0), (8, .own 1), (11, .own 2), (13, .ptr 3 0), (14, .own 4), (15, .cell ⟨.int .i64, s15⟩), (16, .cell ⟨.int .i64, s16⟩)], [.row 22 (.list (.int .u8)) r0, .row 22 (.list (.int .u8)) r1, .row 3 (.int .i64) r2, .blk 28 [.mp 5], .row 4 (.bool) r4, .pmap .i64 49 0 t5 none]⟩
noncomputable def law20ChunkWhole_J5 (n : Nat) (s0 : List Int) (s15 : Int) (s16 : Int) (s105 : Bool) (r0 : List (List Int)) (r1 : List (List Int)) (r2 : List Int) (r4 : List Bool) (t5 : List (Int × Upload)) : Option (Bool) := cutF TT Try.prog law20ChunkWhole_C law20ChunkWhole_cuts Try.f4 (bodyOf Try.f4) ⟨[], []⟩ [.val (.list (.int .u8)), .val (.list (.int .u8)), .val (.list (.int .i64))] [.val (.bool)] n [false, false, false, true, false, true, true, true, true, true, true, true, true, true, true, true, true] ⟨[(0, .cell ⟨.list (.int .u8), s0⟩), (7, .own 0), (8, .own 1), (11, .own 2), (13, .ptr 3 0), (14, .own 4), (15, .cell ⟨.int .i64, s15⟩), (16, .cell ⟨.int .i64, s16⟩), (105, .cell ⟨.bool, s105⟩)], [.row 22 (.list (.int .u8)) r0, .row 22 (.list (.int .u8)) r1, .row 3 (.int .i64) r2, .blk 28 [.mp 5], .row 4 (.bool) r4, .pmap .i64 49 0 t5 none]⟩
noncomputable def law20ChunkWhole_J7 (n : Nat) (s0 : List Int) (s15 : Int) (s16 : Int) (s17 : Int) (s148 : Bool) (r0 : List (List Int)) (r1 : List (List Int)) (r2 : List Int) (r4 : List Bool) (t5 : List (Int × Upload)) : Option (Bool) := cutF TT Try.prog law20ChunkWhole_C law20ChunkWhole_cuts Try.f4 (bodyOf Try.f4) ⟨[], []⟩ [.val (.list (.int .u8)), .val (.list (.int .u8)), .val (.list (.int .i64))] [.val (.bool)] n [true, false, true, true, false, true, false, true, false, false, true, false, false, true, false, true, true, true, true, true, true, true, true, true, true, true, true] ⟨[(0, .cell ⟨.list (.int .u8), s0⟩), (7, .own 0), (8, .own 1), (11, .own 2), (13, .ptr 3 0), (14, .own 4), (15, .cell ⟨.int .i64, s15⟩), (16, .cell ⟨.int .i64, s16⟩), (17, .cell ⟨.int .i64, s17⟩), (148, .cell ⟨.bool, s148⟩)], [.row 22 (.list (.int .u8)) r0, .row 22 (.list (.int .u8)) r1, .row 3 (.int .i64) r2, .blk 28 [.mp 5], .row 4 (.bool) r4, .pmap .i64 49 0 t5 none]⟩
noncomputable def law20ChunkWhole_J6 (n : Nat) (s0 : List Int) (s15 : Int) (s16 : Int) (s17 : Int) (r0 : List (List Int)) (r1 : List (List Int)) (r2 : List Int) (r4 : List Bool) (t5 : List (Int × Upload)) : Option (Bool) := cutF TT Try.prog law20ChunkWhole_C law20ChunkWhole_cuts Try.f4 (bodyOf Try.f4) ⟨[], []⟩ [.val (.list (.int .u8)), .val (.list (.int .u8)), .val (.list (.int .i64))] [.val (.bool)] n [true, false, false, true, false, false, true, false, true, true, true, true, true, true, true, true, true, true, true, true] ⟨[(0, .cell ⟨.list (.int .u8), s0⟩), (7, .own 0), (8, .own 1), (11, .own 2), (13, .ptr 3 0), (14, .own 4), (15, .cell ⟨.int .i64, s15⟩), (16, .cell ⟨.int .i64, s16⟩), (17, .cell ⟨.int .i64, s17⟩)], [.row 22 (.list (.int .u8)) r0, .row 22 (.list (.int .u8)) r1, .row 3 (.int .i64) r2, .blk 28 [.mp 5], .row 4 (.bool) r4, .pmap .i64 49 0 t5 none]⟩
noncomputable def law20ChunkWhole_J10 (n : Nat) (s0 : List Int) (s198 : Bool) (t1 : List (Int × Upload)) : Option (Bool) := cutF TT Try.prog law20ChunkWhole_C law20ChunkWhole_cuts Try.f4 (bodyOf Try.f4) ⟨[], []⟩ [.val (.list (.int .u8)), .val (.list (.int .u8)), .val (.list (.int .i64))] [.val (.bool)] n [false, true, true, true, true, true, true, true, true, true, true, true, true, true] ⟨[(0, .cell ⟨.list (.int .u8), s0⟩), (13, .ptr 0 0), (198, .cell ⟨.bool, s198⟩)], [.blk 28 [.mp 1], .pmap .i64 49 0 t1 none]⟩
noncomputable def law20ChunkWhole_J8 (n : Nat) (s0 : List Int) (s15 : Int) (s16 : Int) (s17 : Int) (r0 : List (List Int)) (r1 : List (List Int)) (r2 : List Int) (r4 : List Bool) (t5 : List (Int × Upload)) : Option (Bool) := cutF TT Try.prog law20ChunkWhole_C law20ChunkWhole_cuts Try.f4 (bodyOf Try.f4) ⟨[], []⟩ [.val (.list (.int .u8)), .val (.list (.int .u8)), .val (.list (.int .i64))] [.val (.bool)] n [true, true, false, false, true, false, false, true, false, true, true, true, true, true, true, true, true, true, true, true, true] ⟨[(0, .cell ⟨.list (.int .u8), s0⟩), (7, .own 0), (8, .own 1), (11, .own 2), (13, .ptr 3 0), (14, .own 4), (15, .cell ⟨.int .i64, s15⟩), (16, .cell ⟨.int .i64, s16⟩), (17, .cell ⟨.int .i64, s17⟩)], [.row 22 (.list (.int .u8)) r0, .row 22 (.list (.int .u8)) r1, .row 3 (.int .i64) r2, .blk 28 [.mp 5], .row 4 (.bool) r4, .pmap .i64 49 0 t5 none]⟩
noncomputable def law20ChunkWhole_J9 (n : Nat) (s0 : List Int) (s15 : Int) (s16 : Int) (s191 : Bool) (r0 : List (List Int)) (r1 : List (List Int)) (r2 : List Int) (r4 : List Bool) (t5 : List (Int × Upload)) : Option (Bool) := cutF TT Try.prog law20ChunkWhole_C law20ChunkWhole_cuts Try.f4 (bodyOf Try.f4) ⟨[], []⟩ [.val (.list (.int .u8)), .val (.list (.int .u8)), .val (.list (.int .i64))] [.val (.bool)] n [true, true, true, true, false, false, true, false, false, true, false, true, true, true, true, true, true, true, true, true, true, true, true] ⟨[(0, .cell ⟨.list (.int .u8), s0⟩), (7, .own 0), (8, .own 1), (11, .own 2), (13, .ptr 3 0), (14, .own 4), (15, .cell ⟨.int .i64, s15⟩), (16, .cell ⟨.int .i64, s16⟩), (191, .cell ⟨.bool, s191⟩)], [.row 22 (.list (.int .u8)) r0, .row 22 (.list (.int .u8)) r1, .row 3 (.int .i64) r2, .blk 28 [.mp 5], .row 4 (.bool) r4, .pmap .i64 49 0 t5 none]⟩
theorem law20ChunkWhole_eq (n : Nat) (x0 : List Int) (x1 : List Int) (x2 : List Int) : law20ChunkWhole n x0 x1 x2 =
  obind (law20_awake BIG ) fun y1 =>
  forkB (!y1)
  (some false)
  (forkB (decide (((x0.length : Nat) : Int) > (40960 : Int)))
   (law20ChunkWhole_J0 n x0 x1 x2 true)
   (forkB (decide (((x1.length : Nat) : Int) > (40960 : Int)))
    (law20ChunkWhole_J0 n x0 x1 x2 true)
    (forkB (((x0.length : Nat) : Int) == (0 : Int))
     (law20ChunkWhole_J0 n x0 x1 x2 true)
     (forkB (((x1.length : Nat) : Int) == (0 : Int))
      (law20ChunkWhole_J0 n x0 x1 x2 true)
      (law20ChunkWhole_J0 n x0 x1 x2 (decide (((x2.length : Nat) : Int) > (100 : Int)))))))) := by kernel_rfl
theorem law20ChunkWhole_J0_eq (n : Nat) (s0 : List Int) (s1 : List Int) (s2 : List Int) (s49 : Bool) : law20ChunkWhole_J0 (n + 1) s0 s1 s2 s49 =
  forkB s49
  (some true)
  (obind (chunkCut_g1 s0) fun y1 =>
   obind (chunkCut_g1 s1) fun y2 =>
   law20ChunkWhole_L1 n s0 s2 (0 : Int) y1.2.1 y2.2.1 ([] : List Int)) := by kernel_rfl
theorem law20ChunkWhole_L1_eq (n : Nat) (s0 : List Int) (s2 : List Int) (s10 : Int) (r0 : List (List Int)) (r1 : List (List Int)) (r2 : List Int) : law20ChunkWhole_L1 (n + 1) s0 s2 s10 r0 r1 r2 =
  forkB (decide (s10 < ((r0.length : Nat) : Int)))
  (if 0 ≤ s10 ∧ s10 < ((r0.length : Nat) : Int) then (if (r2.length + (r0.getD s10.toNat ([] : List Int)).length) * 1 ≤ 140737488355328 then (law20ChunkWhole_L1 n s0 s2 (IntKind.i64.wrap (s10 + (1 : Int))) r0 r1 (r2 ++ (r0.getD s10.toNat ([] : List Int)))) else none) else none)
  (obind (kitSameBytes BIG r2 s0) fun y1 =>
   forkB (!y1)
   (law20ChunkWhole_J2 n s0 s2 true r0 r1)
   (law20ChunkWhole_J2 n s0 s2 (((r0.length : Nat) : Int) != (IntKind.i64.wrap ((IntKind.i64.wrap (((s0.length : Nat) : Int) + (1023 : Int))).tdiv (1024 : Int)))) r0 r1)) := by kernel_rfl
theorem law20ChunkWhole_J2_eq (n : Nat) (s0 : List Int) (s2 : List Int) (s78 : Bool) (r0 : List (List Int)) (r1 : List (List Int)) : law20ChunkWhole_J2 (n + 1) s0 s2 s78 r0 r1 =
  forkB s78
  (some false)
  (if (0 + s2.length) * 8 ≤ 140737488355328 then (law20ChunkWhole_L3 n s0 (0 : Int) r0 r1 (([] : List Int) ++ s2)) else none) := by kernel_rfl
theorem law20ChunkWhole_L3_eq (n : Nat) (s0 : List Int) (s12 : Int) (r0 : List (List Int)) (r1 : List (List Int)) (r2 : List Int) : law20ChunkWhole_L3 (n + 1) s0 s12 r0 r1 r2 =
  forkB (decide (s12 < ((r0.length : Nat) : Int)))
  (if (r2.length + 1) * 8 ≤ 140737488355328 then (law20ChunkWhole_L3 n s0 (IntKind.i64.wrap (s12 + (1 : Int))) r0 r1 (r2 ++ ([s12] : List Int))) else none)
  (obind (chunkNew_g1 BIG ) fun y1 =>
   if 0 ≤ ((r0.length : Nat) : Int) ∧ ((r0.length : Nat) : Int) ≤ ((r0.length : Nat) : Int) ∧ 1 * (((r0.length : Nat) : Int).toNat) ≤ 281474976710656 ∧ ((r0.length : Nat) : Int) ≤ 9223372036854775807 then (law20ChunkWhole_L4 n s0 ((r0.length : Nat) : Int) (0 : Int) r0 r1 r2 (List.replicate (((r0.length : Nat) : Int).toNat) false) y1.2.1.1) else none) := by kernel_rfl
theorem law20ChunkWhole_L4_eq (n : Nat) (s0 : List Int) (s15 : Int) (s16 : Int) (r0 : List (List Int)) (r1 : List (List Int)) (r2 : List Int) (r4 : List Bool) (t5 : List (Int × Upload)) : law20ChunkWhole_L4 (n + 1) s0 s15 s16 r0 r1 r2 r4 t5 =
  forkB (decide (s16 < ((r2.length : Nat) : Int)))
  (law20ChunkWhole_J5 n s0 s15 s16 (decide (s15 > (0 : Int))) r0 r1 r2 r4 t5)
  (law20ChunkWhole_J5 n s0 s15 s16 false r0 r1 r2 r4 t5) := by kernel_rfl
theorem law20ChunkWhole_J5_eq (n : Nat) (s0 : List Int) (s15 : Int) (s16 : Int) (s105 : Bool) (r0 : List (List Int)) (r1 : List (List Int)) (r2 : List Int) (r4 : List Bool) (t5 : List (Int × Upload)) : law20ChunkWhole_J5 (n + 1) s0 s15 s16 s105 r0 r1 r2 r4 t5 =
  forkB s105
  (if 0 ≤ s16 ∧ s16 < ((r2.length : Nat) : Int) then (obind (kitPick BIG (r2.getD s16.toNat (0 : Int)) ((r0.length : Nat) : Int)) fun y1 =>
   forkB ((s16.tmod (2 : Int)) == (1 : Int))
   (if 0 ≤ s16 ∧ s16 < ((r2.length : Nat) : Int) then (obind (kitPick BIG (r2.getD s16.toNat (0 : Int)) ((r1.length : Nat) : Int)) fun y2 =>
    forkB (decide (y2 < (IntKind.i64.wrap (((r1.length : Nat) : Int) - (1 : Int)))))
    (if 0 ≤ y2 ∧ y2 < ((r1.length : Nat) : Int) then (obind (chunkBoardPut_g1 BIG t5 (2 : Int) y2 ((r1.length : Nat) : Int) (r1.getD y2.toNat ([] : List Int))) fun y3 =>
     forkB (y3.2.2.1 != (0 : Int))
     (law20ChunkWhole_J7 n s0 s15 s16 y1 true r0 r1 r2 r4 y3.1.2.1)
     (law20ChunkWhole_J7 n s0 s15 s16 y1 (((y3.2.1.length : Nat) : Int) != (0 : Int)) r0 r1 r2 r4 y3.1.2.1)) else none)
    (law20ChunkWhole_J6 n s0 s15 s16 y1 r0 r1 r2 r4 t5)) else none)
   (law20ChunkWhole_J6 n s0 s15 s16 y1 r0 r1 r2 r4 t5)) else none)
  (forkB (s15 != (0 : Int))
   (law20ChunkWhole_J10 n s0 true t5)
   (obind (chunkBoardDrop_g3 BIG t5 (1 : Int)) fun y4 =>
    law20ChunkWhole_J10 n s0 (y4.2.1 != (6 : Int)) y4.1.2.1)) := by kernel_rfl
theorem law20ChunkWhole_J7_eq (n : Nat) (s0 : List Int) (s15 : Int) (s16 : Int) (s17 : Int) (s148 : Bool) (r0 : List (List Int)) (r1 : List (List Int)) (r2 : List Int) (r4 : List Bool) (t5 : List (Int × Upload)) : law20ChunkWhole_J7 (n + 1) s0 s15 s16 s17 s148 r0 r1 r2 r4 t5 =
  forkB s148
  (some false)
  (law20ChunkWhole_J6 n s0 s15 s16 s17 r0 r1 r2 r4 t5) := by kernel_rfl
theorem law20ChunkWhole_J6_eq (n : Nat) (s0 : List Int) (s15 : Int) (s16 : Int) (s17 : Int) (r0 : List (List Int)) (r1 : List (List Int)) (r2 : List Int) (r4 : List Bool) (t5 : List (Int × Upload)) : law20ChunkWhole_J6 (n + 1) s0 s15 s16 s17 r0 r1 r2 r4 t5 =
  if 0 ≤ s17 ∧ s17 < ((r4.length : Nat) : Int) then (forkB (!(r4.getD s17.toNat false))
  (if 0 ≤ s17 ∧ s17 < ((r4.length : Nat) : Int) then (law20ChunkWhole_J8 n s0 (IntKind.i64.wrap (s15 - (1 : Int))) s16 s17 r0 r1 r2 (r4.set s17.toNat true) t5) else none)
  (law20ChunkWhole_J8 n s0 s15 s16 s17 r0 r1 r2 r4 t5)) else none := by kernel_rfl
theorem law20ChunkWhole_J10_eq (n : Nat) (s0 : List Int) (s198 : Bool) (t1 : List (Int × Upload)) : law20ChunkWhole_J10 (n + 1) s0 s198 t1 =
  forkB s198
  (some false)
  (if 0 ≤ (0 : Int) ∧ (0 : Int) ≤ (1 : Int) ∧ (1 : Int) ≤ ((s0.length : Nat) : Int) then (obind (chunkBoardPut_g1 BIG t1 (1 : Int) (0 : Int) (1 : Int) (List.take 1 (List.drop 0 s0))) fun y1 =>
   forkB (y1.2.2.1 == (0 : Int))
   (if 0 ≤ (0 : Int) ∧ (0 : Int) ≤ (1 : Int) ∧ (1 : Int) ≤ ((s0.length : Nat) : Int) then (obind (kitSameBytes BIG y1.2.1 (List.take 1 (List.drop 0 s0))) fun y2 =>
    some y2) else none)
   (some false)) else none) := by kernel_rfl
theorem law20ChunkWhole_J8_eq (n : Nat) (s0 : List Int) (s15 : Int) (s16 : Int) (s17 : Int) (r0 : List (List Int)) (r1 : List (List Int)) (r2 : List Int) (r4 : List Bool) (t5 : List (Int × Upload)) : law20ChunkWhole_J8 (n + 1) s0 s15 s16 s17 r0 r1 r2 r4 t5 =
  if 0 ≤ s17 ∧ s17 < ((r0.length : Nat) : Int) then (obind (chunkBoardPut_g1 BIG t5 (1 : Int) s17 ((r0.length : Nat) : Int) (r0.getD s17.toNat ([] : List Int))) fun y1 =>
  forkB (y1.2.2.1 != (0 : Int))
  (law20ChunkWhole_J9 n s0 s15 s16 true r0 r1 r2 r4 y1.1.2.1)
  (forkB (decide (s15 > (0 : Int)))
   (forkB (((y1.2.1.length : Nat) : Int) != (0 : Int))
    (law20ChunkWhole_J9 n s0 s15 s16 true r0 r1 r2 r4 y1.1.2.1)
    (forkB (s15 == (0 : Int))
     (obind (kitSameBytes BIG y1.2.1 s0) fun y2 =>
      law20ChunkWhole_J9 n s0 s15 s16 (!y2) r0 r1 r2 r4 y1.1.2.1)
     (law20ChunkWhole_J9 n s0 s15 s16 false r0 r1 r2 r4 y1.1.2.1)))
   (forkB (s15 == (0 : Int))
    (obind (kitSameBytes BIG y1.2.1 s0) fun y3 =>
     law20ChunkWhole_J9 n s0 s15 s16 (!y3) r0 r1 r2 r4 y1.1.2.1)
    (law20ChunkWhole_J9 n s0 s15 s16 false r0 r1 r2 r4 y1.1.2.1)))) else none := by kernel_rfl
theorem law20ChunkWhole_J9_eq (n : Nat) (s0 : List Int) (s15 : Int) (s16 : Int) (s191 : Bool) (r0 : List (List Int)) (r1 : List (List Int)) (r2 : List Int) (r4 : List Bool) (t5 : List (Int × Upload)) : law20ChunkWhole_J9 (n + 1) s0 s15 s16 s191 r0 r1 r2 r4 t5 =
  forkB s191
  (some false)
  (law20ChunkWhole_L4 n s0 s15 (IntKind.i64.wrap (s16 + (1 : Int))) r0 r1 r2 r4 t5) := by kernel_rfl
noncomputable def law20ChunkWhole_sp : FnSpec TT := ⟨[.val (.list (.int .u8)), .val (.list (.int .u8)), .val (.list (.int .i64))], [.val (.bool)], fun x => law20ChunkWhole BIG x.1 x.2.1 x.2.2⟩
theorem law20ChunkWhole_ok : FnOk TT Try.prog 4 law20ChunkWhole_sp := fnOk_of (C := law20ChunkWhole_C) (by kernel_rfl) law20ChunkWhole_env Try.func4 (show Try.f4.body = some (bodyOf Try.f4) by kernel_rfl) (by kernel_rfl) (by kernel_rfl) (cuts := law20ChunkWhole_cuts) fun x y h => ⟨BIG, h⟩
end Go.X
