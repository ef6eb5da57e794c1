import Derived.Test.YtbklhipicfimeaaProg
import Derived.Test.YtbklhipicfimeaaKb
namespace Go.V
open Go.RowKit Go.Proofs
def placeE (n : Nat) (at_ size : Int) : Int :=
  if n ≠ 512 ∨ (size ≠ 1 ∧ size ≠ 2 ∧ size ≠ 4 ∧ size ≠ 8) then 2 else if at_ < -512 ∨ at_ > -size then 112 else 0
theorem place_ok {n : Nat} {at_ size : Int} (h : placeE n at_ size = 0) : n = 512 ∧ (size = 1 ∨ size = 2 ∨ size = 4 ∨ size = 8) ∧ -512 ≤ at_ ∧ at_ ≤ -size := by
  unfold placeE at h; split at h
  · omega
  · split at h <;> omega
def allB (xs : List Bool) (o n : Nat) : Bool := (List.range n).all fun i => xs.getD (o + i) false
theorem allB_succ (xs : List Bool) (o n : Nat) : allB xs o (n + 1) = (allB xs o n && xs.getD (o + n) false) := by
  simp [allB, List.range_succ]
theorem allB_lt {xs : List Bool} {o n : Nat} {i : Nat} (h : allB xs o n = true) (hi : i < n) : xs.getD (o + i) false = true := by
  unfold allB at h
  rw [List.all_eq_true] at h
  exact h i (List.mem_range.2 hi)
def readE (xs : List Bool) (at_ size : Int) : Int :=
  if placeE xs.length at_ size ≠ 0 then placeE xs.length at_ size else if allB xs (at_ + 512).toNat size.toNat then 0 else 110
theorem readE_no {xs : List Bool} {at_ size : Int} (h : placeE xs.length at_ size ≠ 0) : readE xs at_ size = placeE xs.length at_ size := by simp [readE, h]
theorem readE_bad {xs : List Bool} {at_ size : Int} {k : Nat} (h : placeE xs.length at_ size = 0) (hk : (k : Int) < size) (hx : xs.getD (at_ + 512 + (k : Int)).toNat false = false) : readE xs at_ size = 110 := by
  have hp := place_ok h
  have : allB xs (at_ + 512).toNat size.toNat = false := by
    cases hb : allB xs (at_ + 512).toNat size.toNat with
    | false => rfl
    | true =>
      have := allB_lt hb (i := k) (by omega)
      rw [show (at_ + 512).toNat + k = (at_ + 512 + (k : Int)).toNat by omega, hx] at this
      cases this
  simp [readE, h, this]
theorem readE_ok {xs : List Bool} {at_ size : Int} {k : Nat} (h : placeE xs.length at_ size = 0) (hk : (k : Int) ≤ size) (hk' : ¬ (k : Int) < size) (hx : allB xs (at_ + 512).toNat k = true) : readE xs at_ size = 0 := by
  have : k = size.toNat := by omega
  subst this
  simp [readE, h, hx]
theorem allB_step {xs : List Bool} {at_ : Int} {k : Nat} (h0 : -512 ≤ at_) (h : allB xs (at_ + 512).toNat k = true) (hx : xs.getD (at_ + 512 + (k : Int)).toNat false = true) : allB xs (at_ + 512).toNat (k + 1) = true := by
  rw [allB_succ, h, show (at_ + 512).toNat + k = (at_ + 512 + (k : Int)).toNat by omega, hx]; rfl
/-- so many truths set, from a place on. -/
def setTo (xs : List Bool) (o : Nat) : Nat → List Bool
  | 0 => xs
  | m + 1 => (setTo xs o m).set (o + m) true
@[simp] theorem setTo_len (xs : List Bool) (o m : Nat) : (setTo xs o m).length = xs.length := by
  induction m with
  | zero => rfl
  | succ m ih => simp [setTo, ih]
def setL (xs : List Bool) (at_ size : Int) : List Bool := if placeE xs.length at_ size ≠ 0 then [] else setTo xs (at_ + 512).toNat size.toNat
theorem setL_no {xs : List Bool} {at_ size : Int} (h : placeE xs.length at_ size ≠ 0) : setL xs at_ size = [] := by simp [setL, h]
theorem setL_ok {xs : List Bool} {at_ size : Int} (h : placeE xs.length at_ size = 0) : setL xs at_ size = setTo xs (at_ + 512).toNat size.toNat := by simp [setL, h]
def withinB (xs ys : List Bool) (m : Nat) : Bool := (List.range m).all fun i => !(ys.getD i false && !(xs.getD i false))
theorem withinB_succ (xs ys : List Bool) (m : Nat) : withinB xs ys (m + 1) = (withinB xs ys m && !(ys.getD m false && !(xs.getD m false))) := by simp [withinB, List.range_succ]
def withinE (xs ys : List Bool) : Bool := decide (xs.length = 512 ∧ ys.length = 512) && withinB xs ys 512
def joinTo (xs ys : List Bool) (m : Nat) : List Bool := (List.range m).map fun i => xs.getD i false && ys.getD i false
theorem joinTo_succ (xs ys : List Bool) (m : Nat) : joinTo xs ys (m + 1) = joinTo xs ys m ++ [xs.getD m false && ys.getD m false] := by simp [joinTo, List.range_succ]
@[simp] theorem joinTo_len (xs ys : List Bool) (m : Nat) : (joinTo xs ys m).length = m := by simp [joinTo]
def joinL (xs ys : List Bool) : List Bool := if xs.length = 512 ∧ ys.length = 512 then joinTo xs ys 512 else []
/-- a slice of truths of the call's own. -/
def OwnB (B : Nat) (l : List Bool) (v : Value) (w : World) : Prop := ∃ ad cap e, v = .slice ad l.length cap ∧ Own w B e 1 ad l.length cap (bo l)
theorem OwnB.pure {B : Nat} {l : List Bool} {v : Value} {w w' : World} (h : OwnB B l v w) (hc : Chg [] w w') : OwnB B l v w' := by
  obtain ⟨ad, cap, e, h1, h2⟩ := h
  exact ⟨ad, cap, e, h1, h2.pure hc⟩

theorem withinE_no {xs ys : List Bool} (h : (xs.length : Int) ≠ 512 ∨ (ys.length : Int) ≠ 512) : withinE xs ys = false := by
  have : ¬ (xs.length = 512 ∧ ys.length = 512) := by omega
  simp [withinE, this]
theorem withinB_lt {xs ys : List Bool} {m i : Nat} (h : withinB xs ys m = true) (hi : i < m) : (!(ys.getD i false && !(xs.getD i false))) = true := by
  unfold withinB at h
  rw [List.all_eq_true] at h
  exact h i (List.mem_range.2 hi)
theorem withinE_bad {xs ys : List Bool} {k : Nat} (hk : (k : Int) < 512) (h1 : ys.getD k false = true) (h2 : xs.getD k false = false) : withinE xs ys = false := by
  have : withinB xs ys 512 = false := by
    cases hb : withinB xs ys 512 with
    | false => rfl
    | true =>
      have := withinB_lt hb (i := k) (by omega)
      rw [h1, h2] at this; cases this
  simp [withinE, this]
theorem withinE_ok {xs ys : List Bool} {k : Nat} (h : xs.length = 512 ∧ ys.length = 512) (hk : k ≤ 512) (hk' : ¬ (k : Int) < 512) (hx : withinB xs ys k = true) : withinE xs ys = true := by
  have : k = 512 := by omega
  subst this
  simp [withinE, hx, h.1, h.2]
theorem withinB_step {xs ys : List Bool} {k : Nat} (h : withinB xs ys k = true) (hx : ys.getD k false = false ∨ xs.getD k false = true) : withinB xs ys (k + 1) = true := by
  rw [withinB_succ, h]
  rcases hx with hx | hx <;> simp only [hx] <;> simp
theorem joinL_no {xs ys : List Bool} (h : (xs.length : Int) ≠ 512 ∨ (ys.length : Int) ≠ 512) : joinL xs ys = [] := by
  have : ¬ (xs.length = 512 ∧ ys.length = 512) := by omega
  simp [joinL, this]
theorem joinL_ok {xs ys : List Bool} (h : xs.length = 512 ∧ ys.length = 512) : joinL xs ys = joinTo xs ys 512 := by simp [joinL, h.1, h.2]
def joinR (xs ys : List Bool) (k : Nat) : List Bool := joinTo xs ys k ++ List.replicate (512 - k) false
theorem joinR_len {xs ys : List Bool} {k : Nat} (h : k ≤ 512) : (joinR xs ys k).length = 512 := by simp [joinR]; omega
theorem joinR_set {xs ys : List Bool} {k : Nat} (h : k < 512) : (joinR xs ys k).set k (xs.getD k false && ys.getD k false) = joinR xs ys (k + 1) := by
  unfold joinR
  rw [List.set_append_right _ _ (by simp), joinTo_succ, joinTo_len, Nat.sub_self]
  rw [show 512 - k = (512 - (k + 1)) + 1 by omega, List.replicate_succ]
  simp
theorem joinR_all (xs ys : List Bool) : joinR xs ys 512 = joinTo xs ys 512 := by simp [joinR]
theorem setTo_ge (xs : List Bool) (o m : Nat) : (setTo xs o m).length = xs.length := setTo_len xs o m

theorem place_any (ad : Option Addr) (n cap : Nat) (at_ size : Int) (w : World) (_hsize : -9223372036854775808 ≤ size ∧ size ≤ 9223372036854775807) : Calls Try.prog 29 #[.slice ad n cap, .int .i64 at_, .int .i64 size] w (RetV w (.int .i64 (placeE n at_ size))) := by
  refine calls_of_CW Try.func29 rfl (n := 34) Try.ntmps29 (by kernel_rfl) [0, 1, 2] (F := [(0, .slice ad n cap), (1, .int .i64 at_), (2, .int .i64 size)]) (by kernel_rfl) ?_
  refine CW.seq fun K1 hK1 => ?_
  refine CW.region ?_
  refine WR.batch 1 [(0, .slice ad n cap), (1, .int .i64 at_), (2, .int .i64 size)] (by kernel_rfl) ?_
  refine WR.fin (by kernel_rfl) ?_
  refine go hK1 ?_
  refine CW.seq fun K2 hK2 => ?_
  refine CW.seq fun K3 hK3 => ?_
  refine CW.region ?_
  refine WR.batch 4 [(1, .int .i64 at_), (2, .int .i64 size), (10, .bool (((n : Nat) : Int) != (512 : Int)))] (by kernel_rfl) ?_
  refine WR.merge 19 [(1, .int .i64 at_), (2, .int .i64 size), (25, .bool ((((n : Nat) : Int) != (512 : Int)) || ((((size != (1 : Int)) && (size != (2 : Int))) && (size != (4 : Int))) && (size != (8 : Int)))))] (fun Q' => ?_) ?_
  ·
    cases hg4 : (((n : Nat) : Int) != (512 : Int))
    ·
      replace hg4 : ((n : Nat) : Int) = (512 : Int) := (bNeF hg4)
      intro hM5
      refine WR.batch 3 [(1, .int .i64 at_), (2, .int .i64 size), (10, .bool false), (13, .bool (size != (1 : Int)))] (by kernel_rfl) ?_
      refine WR.batch 3 [(1, .int .i64 at_), (2, .int .i64 size), (10, .bool false), (16, .bool ((size != (1 : Int)) && (size != (2 : Int))))] (by generalize (size != (1 : Int)) = b; cases b <;> kernel_rfl) ?_
      refine WR.batch 1 [(1, .int .i64 at_), (2, .int .i64 size), (10, .bool false), (17, .bool ((size != (1 : Int)) && (size != (2 : Int))))] (by kernel_rfl) ?_
      refine WR.batch 3 [(1, .int .i64 at_), (2, .int .i64 size), (10, .bool false), (20, .bool (((size != (1 : Int)) && (size != (2 : Int))) && (size != (4 : Int))))] (by generalize ((size != (1 : Int)) && (size != (2 : Int))) = b; cases b <;> kernel_rfl) ?_
      refine WR.batch 1 [(1, .int .i64 at_), (2, .int .i64 size), (10, .bool false), (21, .bool (((size != (1 : Int)) && (size != (2 : Int))) && (size != (4 : Int))))] (by kernel_rfl) ?_
      refine WR.batch 3 [(1, .int .i64 at_), (2, .int .i64 size), (10, .bool false), (24, .bool ((((size != (1 : Int)) && (size != (2 : Int))) && (size != (4 : Int))) && (size != (8 : Int))))] (by generalize (((size != (1 : Int)) && (size != (2 : Int))) && (size != (4 : Int))) = b; cases b <;> kernel_rfl) ?_
      refine WR.batch 1 [(1, .int .i64 at_), (2, .int .i64 size), (25, .bool ((((size != (1 : Int)) && (size != (2 : Int))) && (size != (4 : Int))) && (size != (8 : Int))))] (by kernel_rfl) ?_
      exact WR.keep [1, 2, 25] (by kernel_rfl) hM5
    ·
      replace hg4 : ((n : Nat) : Int) ≠ (512 : Int) := (bNeT hg4)
      intro hM5
      refine WR.batch 15 [(1, .int .i64 at_), (2, .int .i64 size), (25, .bool true)] (by kernel_rfl) ?_
      exact WR.keep [1, 2, 25] (by kernel_rfl) hM5
  ·
    refine WR.fin (by kernel_rfl) ?_
    refine go hK3 ?_
    refine CW.cond (((((n : Nat) : Int) != (512 : Int)) || ((((size != (1 : Int)) && (size != (2 : Int))) && (size != (4 : Int))) && (size != (8 : Int))))) (by kernel_rfl) (fun ht6 => ?_) (fun ht6 => ?_)
    ·
      replace ht6 : (((n : Nat) : Int) ≠ (512 : Int)) ∨ ((((size ≠ (1 : Int)) ∧ (size ≠ (2 : Int))) ∧ (size ≠ (4 : Int))) ∧ (size ≠ (8 : Int))) := (orMap (bOrT ht6) (fun h => (bNeT h)) (fun h => ⟨⟨⟨(bNeT (bAndT (bAndT (bAndT h).1).1).1), (bNeT (bAndT (bAndT (bAndT h).1).1).2)⟩, (bNeT (bAndT (bAndT h).1).2)⟩, (bNeT (bAndT h).2)⟩))
      refine CW.seq fun K7 hK7 => ?_
      refine CW.region ?_
      refine WR.batch 1 [(6, .int .i64 (2 : Int))] (by kernel_rfl) ?_
      refine WR.fin (by kernel_rfl) ?_
      refine go hK7 ?_
      refine CW.ret ?_
      exact retV (.int .i64 (2 : Int)) (by kernel_rfl) ⟨(Chg.refl _ _), by simp only [placeE]; grind⟩
    ·
      replace ht6 : (((n : Nat) : Int) = (512 : Int)) ∧ ((((size = (1 : Int)) ∨ (size = (2 : Int))) ∨ (size = (4 : Int))) ∨ (size = (8 : Int))) := ⟨(bNeF (bOrF ht6).1), (orMap (bAndF (bOrF ht6).2) (fun h => (orMap (bAndF h) (fun h => (orMap (bAndF h) (fun h => (bNeF h)) (fun h => (bNeF h)))) (fun h => (bNeF h)))) (fun h => (bNeF h)))⟩
      refine CW.skip ?_
      refine go hK2 ?_
      refine CW.seq fun K8 hK8 => ?_
      refine CW.seq fun K9 hK9 => ?_
      refine CW.region ?_
      refine WR.batch 3 [(1, .int .i64 at_), (2, .int .i64 size), (28, .bool (decide (at_ < (-512 : Int))))] (by kernel_rfl) ?_
      refine WR.merge 8 [(33, .bool ((decide (at_ < (-512 : Int))) || (decide (at_ > (0 - size)))))] (fun Q' => ?_) ?_
      ·
        cases hg10 : decide (at_ < (-512 : Int))
        ·
          replace hg10 : ¬ (at_ < (-512 : Int)) := (of_decide_eq_false hg10)
          intro hM11
          refine WR.batch 3 [(28, .bool false), (29, .int .i64 at_), (31, .int .i64 (IntKind.i64.wrap (0 - size)))] (by kernel_rfl) ?_
          have hw12 : IntKind.i64.wrap (0 - size) = (0 - size) := IntWalk.i64_in _ (by omega)
          refine WR.eqF (F' := [(28, .bool false), (29, .int .i64 at_), (31, .int .i64 (0 - size))]) (by rw [hw12]) ?_
          refine WR.batch 2 [(33, .bool (decide (at_ > (0 - size))))] (by kernel_rfl) ?_
          exact WR.keep [33] (by kernel_rfl) hM11
        ·
          replace hg10 : at_ < (-512 : Int) := (of_decide_eq_true hg10)
          intro hM11
          refine WR.batch 5 [(33, .bool true)] (by kernel_rfl) ?_
          exact WR.keep [33] (by kernel_rfl) hM11
      ·
        refine WR.fin (by kernel_rfl) ?_
        refine go hK9 ?_
        refine CW.cond (((decide (at_ < (-512 : Int))) || (decide (at_ > (0 - size))))) (by kernel_rfl) (fun ht13 => ?_) (fun ht13 => ?_)
        ·
          replace ht13 : (at_ < (-512 : Int)) ∨ (at_ > (0 - size)) := (orMap (bOrT ht13) (fun h => (of_decide_eq_true h)) (fun h => (of_decide_eq_true h)))
          refine CW.seq fun K14 hK14 => ?_
          refine CW.region ?_
          refine WR.batch 1 [(6, .int .i64 (112 : Int))] (by kernel_rfl) ?_
          refine WR.fin (by kernel_rfl) ?_
          refine go hK14 ?_
          refine CW.ret ?_
          exact retV (.int .i64 (112 : Int)) (by kernel_rfl) ⟨(Chg.refl _ _), by simp only [placeE]; grind⟩
        ·
          replace ht13 : (¬ (at_ < (-512 : Int))) ∧ (¬ (at_ > (0 - size))) := ⟨(of_decide_eq_false (bOrF ht13).1), (of_decide_eq_false (bOrF ht13).2)⟩
          refine CW.skip ?_
          refine go hK8 ?_
          refine CW.seq fun K15 hK15 => ?_
          refine CW.region ?_
          refine WR.batch 1 [(6, .int .i64 (0 : Int))] (by kernel_rfl) ?_
          refine WR.fin (by kernel_rfl) ?_
          refine go hK15 ?_
          refine CW.ret ?_
          exact retV (.int .i64 (0 : Int)) (by kernel_rfl) ⟨(Chg.refl _ _), by simp only [placeE]; grind⟩

theorem refRead_any (ad : Option Addr) (cap : Nat) (xs : List Bool) (at_ size : Int) (w : World) (hr : Rg w ad (bo xs)) (_hsize : -9223372036854775808 ≤ size ∧ size ≤ 9223372036854775807) : Calls Try.prog 14 #[.slice ad xs.length cap, .int .i64 at_, .int .i64 size] w (RetV w (.int .i64 (readE xs at_ size))) := by
  refine calls_of_CW Try.func14 rfl (n := 29) Try.ntmps14 (by kernel_rfl) [0, 1, 2] (F := [(0, .slice ad xs.length cap), (1, .int .i64 at_), (2, .int .i64 size)]) (by kernel_rfl) ?_
  refine CW.seq fun K1 hK1 => ?_
  refine CW.region ?_
  refine WR.batch 1 [(0, .slice ad xs.length cap), (1, .int .i64 at_), (2, .int .i64 size)] (by kernel_rfl) ?_
  refine WR.fin (by kernel_rfl) ?_
  refine go hK1 ?_
  refine CW.seq fun K2 hK2 => ?_
  refine CW.seq fun K3 hK3 => ?_
  refine CW.region ?_
  refine WR.batch 3 [(0, .slice ad xs.length cap), (1, .int .i64 at_), (2, .int .i64 size), (9, .slice ad xs.length cap), (10, .int .i64 at_), (11, .int .i64 size)] (by kernel_rfl) ?_
  refine WR.call (dst := some 12) (by kernel_rfl) (place_any ad xs.length cap at_ size w (by omega)) ?_
  rintro _ w4 hc5 rfl
  have hz7 := hc5.size
  have hC6 := (Chg.refl [] w).pure hc5
  refine WR.batch 1 [(0, .slice ad xs.length cap), (1, .int .i64 at_), (2, .int .i64 size), (7, .int .i64 (placeE xs.length at_ size))] (by kernel_rfl) ?_
  refine WR.fin (by kernel_rfl) ?_
  refine go hK3 ?_
  refine CW.seq fun K8 hK8 => ?_
  refine CW.region ?_
  refine WR.batch 2 [(0, .slice ad xs.length cap), (1, .int .i64 at_), (2, .int .i64 size), (7, .int .i64 (placeE xs.length at_ size)), (14, .bool ((placeE xs.length at_ size) != (0 : Int)))] (by kernel_rfl) ?_
  refine WR.fin (by kernel_rfl) ?_
  refine go hK8 ?_
  refine CW.cond (((placeE xs.length at_ size) != (0 : Int))) (by kernel_rfl) (fun ht9 => ?_) (fun ht9 => ?_)
  ·
    replace ht9 : (placeE xs.length at_ size) ≠ (0 : Int) := (bNeT ht9)
    have hpn := ht9
    refine CW.seq fun K10 hK10 => ?_
    refine CW.region ?_
    refine WR.batch 2 [(6, .int .i64 (placeE xs.length at_ size))] (by kernel_rfl) ?_
    refine WR.fin (by kernel_rfl) ?_
    refine go hK10 ?_
    refine CW.ret ?_
    exact retV (.int .i64 (placeE xs.length at_ size)) (by kernel_rfl) ⟨hC6, by rw [readE_no (by assumption)]⟩
  ·
    replace ht9 : (placeE xs.length at_ size) = (0 : Int) := (bNeF ht9)
    have hp := place_ok ht9
    have hp0 := ht9
    refine CW.skip ?_
    refine go hK2 ?_
    refine CW.seq fun K11 hK11 => ?_
    refine CW.seq fun K12 hK12 => ?_
    refine CW.region ?_
    refine WR.batch 1 [(0, .slice ad xs.length cap), (1, .int .i64 at_), (2, .int .i64 size), (8, .int .i64 (0 : Int))] (by kernel_rfl) ?_
    refine WR.fin (by kernel_rfl) ?_
    refine go hK12 ?_
    refine CW.block ?_
    refine CW.loop (σ := Nat) (fun k w13 => Chg [] w w13 ∧ ((k : Int) ≤ size) ∧ (allB xs (at_ + 512).toNat k = true)) (fun k => [(0, .slice ad xs.length cap), (1, .int .i64 at_), (2, .int .i64 size), (8, .int .i64 ((k : Nat) : Int))]) (fun k => size.toNat - k) (0) ⟨hC6, (by omega), rfl⟩ [0, 1, 2, 8] (by kernel_rfl) ?_
    rintro k w13 ⟨hC14, hk, hall⟩
    refine CW.seq fun K15 hK15 => ?_
    refine CW.seq fun K16 hK16 => ?_
    refine CW.region ?_
    refine WR.batch 3 [(0, .slice ad xs.length cap), (1, .int .i64 at_), (2, .int .i64 size), (8, .int .i64 ((k : Nat) : Int)), (18, .bool (decide (((k : Nat) : Int) < size)))] (by kernel_rfl) ?_
    refine WR.fin (by kernel_rfl) ?_
    refine go hK16 ?_
    refine CW.cond (decide (((k : Nat) : Int) < size)) (by kernel_rfl) (fun ht17 => ?_) (fun ht17 => ?_)
    ·
      replace ht17 : ((k : Nat) : Int) < size := (of_decide_eq_true ht17)
      refine CW.skip ?_
      refine go hK15 ?_
      refine CW.seq fun K18 hK18 => ?_
      refine CW.block ?_
      refine CW.seq fun K19 hK19 => ?_
      refine CW.region ?_
      refine WR.batch 3 [(0, .slice ad xs.length cap), (1, .int .i64 at_), (2, .int .i64 size), (8, .int .i64 ((k : Nat) : Int)), (21, .slice ad xs.length cap), (23, .int .i64 (IntKind.i64.wrap (at_ + (512 : Int))))] (by kernel_rfl) ?_
      have hw20 : IntKind.i64.wrap (at_ + (512 : Int)) = (at_ + (512 : Int)) := IntWalk.i64_in _ (by omega)
      refine WR.eqF (F' := [(0, .slice ad xs.length cap), (1, .int .i64 at_), (2, .int .i64 size), (8, .int .i64 ((k : Nat) : Int)), (21, .slice ad xs.length cap), (23, .int .i64 (at_ + (512 : Int)))]) (by rw [hw20]) ?_
      refine WR.batch 2 [(0, .slice ad xs.length cap), (1, .int .i64 at_), (2, .int .i64 size), (8, .int .i64 ((k : Nat) : Int)), (21, .slice ad xs.length cap), (25, .int .i64 (IntKind.i64.wrap ((at_ + (512 : Int)) + ((k : Nat) : Int))))] (by kernel_rfl) ?_
      have hw21 : IntKind.i64.wrap ((at_ + (512 : Int)) + ((k : Nat) : Int)) = ((at_ + (512 : Int)) + ((k : Nat) : Int)) := IntWalk.i64_in _ (by omega)
      refine WR.eqF (F' := [(0, .slice ad xs.length cap), (1, .int .i64 at_), (2, .int .i64 size), (8, .int .i64 ((k : Nat) : Int)), (21, .slice ad xs.length cap), (25, .int .i64 ((at_ + (512 : Int)) + ((k : Nat) : Int)))]) (by rw [hw21]) ?_
      refine WR.index (dst := some 26) (t := 22) (m := xs.length) (cap := cap) (kk := .i64) (i := ((at_ + (512 : Int)) + ((k : Nat) : Int))) (hr.pure hC14) (by kernel_rfl) 1 (by kernel_rfl) (by omega) (by omega) (mapNe _ _ ((((at_ + (512 : Int)) + ((k : Nat) : Int))).toNat) (by omega)) (((at_ + (512 : Int)) + ((k : Nat) : Int))).toNat (by omega) ?_
      refine WR.load1 (dst := some 27) (t := 4) (a := ⟨bk ad, of ad + (((at_ + (512 : Int)) + ((k : Nat) : Int))).toNat, none⟩) (by kernel_rfl) (by kernel_rfl) (.bool (xs.getD (((at_ + (512 : Int)) + ((k : Nat) : Int))).toNat false)) ((hr.pure hC14) _ _ (getMap _ xs ((((at_ + (512 : Int)) + ((k : Nat) : Int))).toNat) false (by omega))).2 ?_
      refine WR.batch 1 [(0, .slice ad xs.length cap), (1, .int .i64 at_), (2, .int .i64 size), (8, .int .i64 ((k : Nat) : Int)), (28, .bool (!(xs.getD (((at_ + (512 : Int)) + ((k : Nat) : Int))).toNat false)))] (by kernel_rfl) ?_
      refine WR.fin (by kernel_rfl) ?_
      refine go hK19 ?_
      refine CW.cond ((!(xs.getD (((at_ + (512 : Int)) + ((k : Nat) : Int))).toNat false))) (by kernel_rfl) (fun ht22 => ?_) (fun ht22 => ?_)
      ·
        replace ht22 : (xs.getD (((at_ + (512 : Int)) + ((k : Nat) : Int))).toNat false) = false := (bNotT ht22)
        refine CW.seq fun K23 hK23 => ?_
        refine CW.region ?_
        refine WR.batch 1 [(6, .int .i64 (110 : Int))] (by kernel_rfl) ?_
        refine WR.fin (by kernel_rfl) ?_
        refine go hK23 ?_
        refine CW.ret ?_
        exact retV (.int .i64 (110 : Int)) (by kernel_rfl) ⟨hC14, by rw [readE_bad hp0 (k := k) (by assumption) (by assumption)]⟩
      ·
        replace ht22 : (xs.getD (((at_ + (512 : Int)) + ((k : Nat) : Int))).toNat false) = true := (bNotF ht22)
        refine CW.skip ?_
        refine go hK18 ?_
        refine CW.region ?_
        refine WR.batch 2 [(0, .slice ad xs.length cap), (1, .int .i64 at_), (2, .int .i64 size), (20, .int .i64 (IntKind.i64.wrap (((k : Nat) : Int) + (1 : Int))))] (by kernel_rfl) ?_
        have hw24 : IntKind.i64.wrap (((k : Nat) : Int) + (1 : Int)) = (((k : Nat) : Int) + (1 : Int)) := IntWalk.i64_in _ (by omega)
        refine WR.eqF (F' := [(0, .slice ad xs.length cap), (1, .int .i64 at_), (2, .int .i64 size), (20, .int .i64 (((k : Nat) : Int) + (1 : Int)))]) (by rw [hw24]) ?_
        refine WR.batch 1 [(0, .slice ad xs.length cap), (1, .int .i64 at_), (2, .int .i64 size), (8, .int .i64 (((k : Nat) : Int) + (1 : Int)))] (by kernel_rfl) ?_
        refine WR.fin (by kernel_rfl) ?_
        exact fun _ ha => ⟨k + 1, ⟨hC14, (by omega), allB_step (by omega) hall (by assumption)⟩, (by dsimp only; omega), ha.keep [0, 1, 2, 8] (by kernel_rfl)⟩
    ·
      replace ht17 : ¬ (((k : Nat) : Int) < size) := (of_decide_eq_false ht17)
      refine CW.exit ?_
      refine go hK11 ?_
      refine CW.seq fun K25 hK25 => ?_
      refine CW.region ?_
      refine WR.batch 1 [(6, .int .i64 (0 : Int))] (by kernel_rfl) ?_
      refine WR.fin (by kernel_rfl) ?_
      refine go hK25 ?_
      refine CW.ret ?_
      exact retV (.int .i64 (0 : Int)) (by kernel_rfl) ⟨hC14, by rw [readE_ok hp0 hk (by assumption) hall]⟩

theorem refWithin_any (ad1 ad2 : Option Addr) (cap1 cap2 : Nat) (xs ys : List Bool) (w : World) (h1 : Rg w ad1 (bo xs)) (h2 : Rg w ad2 (bo ys)) : Calls Try.prog 16 #[.slice ad1 xs.length cap1, .slice ad2 ys.length cap2] w (RetV w (.bool (withinE xs ys))) := by
  refine calls_of_CW Try.func16 rfl (n := 29) Try.ntmps16 (by kernel_rfl) [0, 1] (F := [(0, .slice ad1 xs.length cap1), (1, .slice ad2 ys.length cap2)]) (by kernel_rfl) ?_
  refine CW.seq fun K1 hK1 => ?_
  refine CW.region ?_
  refine WR.batch 1 [(0, .slice ad1 xs.length cap1), (1, .slice ad2 ys.length cap2)] (by kernel_rfl) ?_
  refine WR.fin (by kernel_rfl) ?_
  refine go hK1 ?_
  refine CW.seq fun K2 hK2 => ?_
  refine CW.seq fun K3 hK3 => ?_
  refine CW.region ?_
  refine WR.batch 4 [(0, .slice ad1 xs.length cap1), (1, .slice ad2 ys.length cap2), (9, .bool (((xs.length : Nat) : Int) != (512 : Int)))] (by kernel_rfl) ?_
  refine WR.batch 4 [(0, .slice ad1 xs.length cap1), (1, .slice ad2 ys.length cap2), (13, .bool ((((xs.length : Nat) : Int) != (512 : Int)) || (((ys.length : Nat) : Int) != (512 : Int))))] (by generalize (((xs.length : Nat) : Int) != (512 : Int)) = b; cases b <;> kernel_rfl) ?_
  refine WR.fin (by kernel_rfl) ?_
  refine go hK3 ?_
  refine CW.cond (((((xs.length : Nat) : Int) != (512 : Int)) || (((ys.length : Nat) : Int) != (512 : Int)))) (by kernel_rfl) (fun ht4 => ?_) (fun ht4 => ?_)
  ·
    replace ht4 : (((xs.length : Nat) : Int) ≠ (512 : Int)) ∨ (((ys.length : Nat) : Int) ≠ (512 : Int)) := (orMap (bOrT ht4) (fun h => (bNeT h)) (fun h => (bNeT h)))
    have hln := ht4
    refine CW.seq fun K5 hK5 => ?_
    refine CW.region ?_
    refine WR.batch 1 [(4, .bool false)] (by kernel_rfl) ?_
    refine WR.fin (by kernel_rfl) ?_
    refine go hK5 ?_
    refine CW.ret ?_
    exact retV (.bool false) (by kernel_rfl) ⟨(Chg.refl _ _), by first | rw [withinE_bad (k := k) (by assumption) hx.1 hx.2] | rw [withinE_no hln]⟩
  ·
    replace ht4 : (((xs.length : Nat) : Int) = (512 : Int)) ∧ (((ys.length : Nat) : Int) = (512 : Int)) := ⟨(bNeF (bOrF ht4).1), (bNeF (bOrF ht4).2)⟩
    have hl : xs.length = 512 ∧ ys.length = 512 := by omega
    refine CW.skip ?_
    refine go hK2 ?_
    refine CW.seq fun K6 hK6 => ?_
    refine CW.seq fun K7 hK7 => ?_
    refine CW.region ?_
    refine WR.batch 1 [(0, .slice ad1 xs.length cap1), (1, .slice ad2 ys.length cap2), (5, .int .i64 (0 : Int))] (by kernel_rfl) ?_
    refine WR.fin (by kernel_rfl) ?_
    refine go hK7 ?_
    refine CW.block ?_
    refine CW.loop (σ := Nat) (fun k w8 => Chg [] w w8 ∧ (k ≤ 512) ∧ (withinB xs ys k = true)) (fun k => [(0, .slice ad1 xs.length cap1), (1, .slice ad2 ys.length cap2), (5, .int .i64 ((k : Nat) : Int))]) (fun k => 512 - k) (0) ⟨Chg.refl _ _, (by omega), rfl⟩ [0, 1, 5] (by kernel_rfl) ?_
    rintro k w8 ⟨hC9, hk, hall⟩
    refine CW.seq fun K10 hK10 => ?_
    refine CW.seq fun K11 hK11 => ?_
    refine CW.region ?_
    refine WR.batch 2 [(0, .slice ad1 xs.length cap1), (1, .slice ad2 ys.length cap2), (5, .int .i64 ((k : Nat) : Int)), (15, .bool (decide (((k : Nat) : Int) < (512 : Int))))] (by kernel_rfl) ?_
    refine WR.fin (by kernel_rfl) ?_
    refine go hK11 ?_
    refine CW.cond (decide (((k : Nat) : Int) < (512 : Int))) (by kernel_rfl) (fun ht12 => ?_) (fun ht12 => ?_)
    ·
      replace ht12 : ((k : Nat) : Int) < (512 : Int) := (of_decide_eq_true ht12)
      refine CW.skip ?_
      refine go hK10 ?_
      refine CW.seq fun K13 hK13 => ?_
      refine CW.block ?_
      refine CW.seq fun K14 hK14 => ?_
      refine CW.region ?_
      refine WR.batch 2 [(0, .slice ad1 xs.length cap1), (1, .slice ad2 ys.length cap2), (5, .int .i64 ((k : Nat) : Int)), (18, .slice ad2 ys.length cap2), (19, .int .i64 ((k : Nat) : Int))] (by kernel_rfl) ?_
      refine WR.index (dst := some 20) (t := 22) (m := ys.length) (cap := cap2) (kk := .i64) (i := ((k : Nat) : Int)) (h2.pure hC9) (by kernel_rfl) 1 (by kernel_rfl) (by omega) (by omega) (mapNe _ _ (k) (by omega)) k (by omega) ?_
      refine WR.load1 (dst := some 21) (t := 4) (a := ⟨bk ad2, of ad2 + k, none⟩) (by kernel_rfl) (by kernel_rfl) (.bool (ys.getD k false)) ((h2.pure hC9) _ _ (getMap _ ys (k) false (by omega))).2 ?_
      refine WR.batch 1 [(0, .slice ad1 xs.length cap1), (1, .slice ad2 ys.length cap2), (5, .int .i64 ((k : Nat) : Int)), (22, .bool (ys.getD k false))] (by kernel_rfl) ?_
      refine WR.merge 11 [(0, .slice ad1 xs.length cap1), (1, .slice ad2 ys.length cap2), (5, .int .i64 ((k : Nat) : Int)), (28, .bool ((ys.getD k false) && (!(xs.getD k false))))] (fun Q' => ?_) ?_
      ·
        cases hg15 : ys.getD k false
        ·
          intro hM16
          refine WR.batch 6 [(0, .slice ad1 xs.length cap1), (1, .slice ad2 ys.length cap2), (5, .int .i64 ((k : Nat) : Int)), (28, .bool false)] (by kernel_rfl) ?_
          exact WR.keep [0, 1, 5, 28] (by kernel_rfl) hM16
        ·
          intro hM16
          refine WR.batch 2 [(0, .slice ad1 xs.length cap1), (1, .slice ad2 ys.length cap2), (5, .int .i64 ((k : Nat) : Int)), (22, .bool true), (23, .slice ad1 xs.length cap1), (24, .int .i64 ((k : Nat) : Int))] (by kernel_rfl) ?_
          refine WR.index (dst := some 25) (t := 22) (m := xs.length) (cap := cap1) (kk := .i64) (i := ((k : Nat) : Int)) (h1.pure hC9) (by kernel_rfl) 1 (by kernel_rfl) (by omega) (by omega) (mapNe _ _ (k) (by omega)) k (by omega) ?_
          refine WR.load1 (dst := some 26) (t := 4) (a := ⟨bk ad1, of ad1 + k, none⟩) (by kernel_rfl) (by kernel_rfl) (.bool (xs.getD k false)) ((h1.pure hC9) _ _ (getMap _ xs (k) false (by omega))).2 ?_
          refine WR.batch 2 [(0, .slice ad1 xs.length cap1), (1, .slice ad2 ys.length cap2), (5, .int .i64 ((k : Nat) : Int)), (28, .bool (!(xs.getD k false)))] (by kernel_rfl) ?_
          exact WR.keep [0, 1, 5, 28] (by kernel_rfl) hM16
      ·
        refine WR.fin (by kernel_rfl) ?_
        refine go hK14 ?_
        refine CW.cond (((ys.getD k false) && (!(xs.getD k false)))) (by kernel_rfl) (fun ht17 => ?_) (fun ht17 => ?_)
        ·
          replace ht17 : ((ys.getD k false) = true) ∧ ((xs.getD k false) = false) := ⟨(bAndT ht17).1, (bNotT (bAndT ht17).2)⟩
          have hx := ht17
          refine CW.seq fun K18 hK18 => ?_
          refine CW.region ?_
          refine WR.batch 1 [(4, .bool false)] (by kernel_rfl) ?_
          refine WR.fin (by kernel_rfl) ?_
          refine go hK18 ?_
          refine CW.ret ?_
          exact retV (.bool false) (by kernel_rfl) ⟨hC9, by first | rw [withinE_bad (k := k) (by assumption) hx.1 hx.2] | rw [withinE_no hln]⟩
        ·
          replace ht17 : ((ys.getD k false) = false) ∨ ((xs.getD k false) = true) := (orMap (bAndF ht17) (fun h => h) (fun h => (bNotF h)))
          have hx := ht17
          refine CW.skip ?_
          refine go hK13 ?_
          refine CW.region ?_
          refine WR.batch 2 [(0, .slice ad1 xs.length cap1), (1, .slice ad2 ys.length cap2), (17, .int .i64 (IntKind.i64.wrap (((k : Nat) : Int) + (1 : Int))))] (by kernel_rfl) ?_
          have hw19 : IntKind.i64.wrap (((k : Nat) : Int) + (1 : Int)) = (((k : Nat) : Int) + (1 : Int)) := IntWalk.i64_in _ (by omega)
          refine WR.eqF (F' := [(0, .slice ad1 xs.length cap1), (1, .slice ad2 ys.length cap2), (17, .int .i64 (((k : Nat) : Int) + (1 : Int)))]) (by rw [hw19]) ?_
          refine WR.batch 1 [(0, .slice ad1 xs.length cap1), (1, .slice ad2 ys.length cap2), (5, .int .i64 (((k : Nat) : Int) + (1 : Int)))] (by kernel_rfl) ?_
          refine WR.fin (by kernel_rfl) ?_
          exact fun _ ha => ⟨k + 1, ⟨hC9, (by omega), withinB_step hall hx⟩, (by dsimp only; omega), ha.keep [0, 1, 5] (by kernel_rfl)⟩
    ·
      replace ht12 : ¬ (((k : Nat) : Int) < (512 : Int)) := (of_decide_eq_false ht12)
      refine CW.exit ?_
      refine go hK6 ?_
      refine CW.seq fun K20 hK20 => ?_
      refine CW.region ?_
      refine WR.batch 1 [(4, .bool true)] (by kernel_rfl) ?_
      refine WR.fin (by kernel_rfl) ?_
      refine go hK20 ?_
      refine CW.ret ?_
      exact retV (.bool true) (by kernel_rfl) ⟨hC9, by rw [withinE_ok hl hk (by assumption) hall]⟩

abbrev newL : List Bool := List.replicate 512 false
theorem newL_len : newL.length = 512 := List.length_replicate

theorem refNew_any (w : World) : Calls Try.prog 19 #[] w (Ret [] w fun v w' => OwnB w.heap.size newL v w') := by
  refine calls_of_CW Try.func19 rfl (n := 2) Try.ntmps19 (by kernel_rfl) [] (F := []) (by kernel_rfl) ?_
  refine CW.seq fun K1 hK1 => ?_
  refine CW.region ?_
  refine WR.batch 1 [] (by kernel_rfl) ?_
  refine WR.fin (by kernel_rfl) ?_
  refine go hK1 ?_
  refine CW.seq fun K2 hK2 => ?_
  refine CW.region ?_
  refine WR.make (dst := some 1) (t := 22) (e := 4) (kl := .i64) (kc := .i64) (l := (512 : Int)) (c := (512 : Int)) (sz := 1) (by_ := 1) (zc := #[.bool false]) (by kernel_rfl) (by kernel_rfl) (512) (512) (by omega) (by omega) (by omega) (by omega) (by omega) ?_
  intro g3 w4 hN5
  have hf7 := hN5.fresh
  have hc8 := hN5.chg
  have hz10 := hc8.size
  have hC9 := (Chg.refl [] w).pure hc8
  have ho6 : Own w4 w.heap.size 4 1 (some ⟨g3, 0, none⟩) (512) (512) (bo (List.replicate (512) false)) := by rw [boRep, ← made1 _ _ (512) (by omega)]; exact Own.made hN5 (m := 512) (by omega) (by omega)
  refine WR.batch 1 [(0, .slice (some ⟨g3, 0, none⟩) 512 512)] (by kernel_rfl) ?_
  refine WR.fin (by kernel_rfl) ?_
  refine go hK2 ?_
  refine CW.ret ?_
  exact retV (.slice (some ⟨g3, 0, none⟩) 512 512) (by kernel_rfl) ⟨hC9, ⟨(some ⟨g3, 0, none⟩), 512, _, by rw [newL_len], by rw [newL_len]; exact ho6⟩⟩

theorem refJoin_any (ad1 ad2 : Option Addr) (cap1 cap2 : Nat) (xs ys : List Bool) (w : World) (h1 : Rg w ad1 (bo xs)) (h2 : Rg w ad2 (bo ys)) : Calls Try.prog 17 #[.slice ad1 xs.length cap1, .slice ad2 ys.length cap2] w (Ret [] w fun v w' => OwnB w.heap.size (joinL xs ys) v w') := by
  refine calls_of_CW Try.func17 rfl (n := 34) Try.ntmps17 (by kernel_rfl) [0, 1] (F := [(0, .slice ad1 xs.length cap1), (1, .slice ad2 ys.length cap2)]) (by kernel_rfl) ?_
  refine CW.seq fun K1 hK1 => ?_
  refine CW.region ?_
  refine WR.batch 1 [(0, .slice ad1 xs.length cap1), (1, .slice ad2 ys.length cap2)] (by kernel_rfl) ?_
  refine WR.fin (by kernel_rfl) ?_
  refine go hK1 ?_
  refine CW.seq fun K2 hK2 => ?_
  refine CW.seq fun K3 hK3 => ?_
  refine CW.region ?_
  refine WR.batch 4 [(0, .slice ad1 xs.length cap1), (1, .slice ad2 ys.length cap2), (10, .bool (((xs.length : Nat) : Int) != (512 : Int)))] (by kernel_rfl) ?_
  refine WR.batch 4 [(0, .slice ad1 xs.length cap1), (1, .slice ad2 ys.length cap2), (14, .bool ((((xs.length : Nat) : Int) != (512 : Int)) || (((ys.length : Nat) : Int) != (512 : Int))))] (by generalize (((xs.length : Nat) : Int) != (512 : Int)) = b; cases b <;> kernel_rfl) ?_
  refine WR.fin (by kernel_rfl) ?_
  refine go hK3 ?_
  refine CW.cond (((((xs.length : Nat) : Int) != (512 : Int)) || (((ys.length : Nat) : Int) != (512 : Int)))) (by kernel_rfl) (fun ht4 => ?_) (fun ht4 => ?_)
  ·
    replace ht4 : (((xs.length : Nat) : Int) ≠ (512 : Int)) ∨ (((ys.length : Nat) : Int) ≠ (512 : Int)) := (orMap (bOrT ht4) (fun h => (bNeT h)) (fun h => (bNeT h)))
    have hln := ht4
    refine CW.seq fun K5 hK5 => ?_
    refine CW.region ?_
    refine WR.batch 1 [(4, .slice none 0 0)] (by kernel_rfl) ?_
    refine WR.fin (by kernel_rfl) ?_
    refine go hK5 ?_
    refine CW.ret ?_
    exact retV (.slice none 0 0) (by kernel_rfl) ⟨(Chg.refl _ _), by rw [joinL_no hln]; exact ⟨none, 0, 0, rfl, Own.nil _ _ _ _⟩⟩
  ·
    replace ht4 : (((xs.length : Nat) : Int) = (512 : Int)) ∧ (((ys.length : Nat) : Int) = (512 : Int)) := ⟨(bNeF (bOrF ht4).1), (bNeF (bOrF ht4).2)⟩
    have hl : xs.length = 512 ∧ ys.length = 512 := by omega
    refine CW.skip ?_
    refine go hK2 ?_
    refine CW.seq fun K6 hK6 => ?_
    refine CW.region ?_
    refine WR.make (dst := some 15) (t := 22) (e := 4) (kl := .i64) (kc := .i64) (l := (512 : Int)) (c := (512 : Int)) (sz := 1) (by_ := 1) (zc := #[.bool false]) (by kernel_rfl) (by kernel_rfl) (512) (512) (by omega) (by omega) (by omega) (by omega) (by omega) ?_
    intro g7 w8 hN9
    have hf11 := hN9.fresh
    have hc12 := hN9.chg
    have hz14 := hc12.size
    have hC13 := (Chg.refl [] w).pure hc12
    have ho10 : Own w8 w.heap.size 4 1 (some ⟨g7, 0, none⟩) (512) (512) (bo (List.replicate (512) false)) := by rw [boRep, ← made1 _ _ (512) (by omega)]; exact Own.made hN9 (m := 512) (by omega) (by omega)
    refine WR.batch 1 [(0, .slice ad1 xs.length cap1), (1, .slice ad2 ys.length cap2), (5, .slice (some ⟨g7, 0, none⟩) 512 512)] (by kernel_rfl) ?_
    refine WR.fin (by kernel_rfl) ?_
    refine go hK6 ?_
    refine CW.seq fun K15 hK15 => ?_
    refine CW.seq fun K16 hK16 => ?_
    refine CW.region ?_
    refine WR.batch 1 [(0, .slice ad1 xs.length cap1), (1, .slice ad2 ys.length cap2), (5, .slice (some ⟨g7, 0, none⟩) 512 512), (6, .int .i64 (0 : Int))] (by kernel_rfl) ?_
    refine WR.fin (by kernel_rfl) ?_
    refine go hK16 ?_
    refine CW.block ?_
    refine CW.loop (σ := Nat) (fun k w17 => Chg [] w w17 ∧ (k ≤ 512) ∧ (Own w17 w.heap.size 4 1 (some ⟨g7, 0, none⟩) 512 512 (bo (joinR xs ys k)))) (fun k => [(0, .slice ad1 xs.length cap1), (1, .slice ad2 ys.length cap2), (5, .slice (some ⟨g7, 0, none⟩) 512 512), (6, .int .i64 ((k : Nat) : Int))]) (fun k => 512 - k) (0) ⟨hC13, (by omega), ho10⟩ [0, 1, 5, 6] (by kernel_rfl) ?_
    rintro k w17 ⟨hC18, hk, ho⟩
    refine CW.seq fun K19 hK19 => ?_
    refine CW.seq fun K20 hK20 => ?_
    refine CW.region ?_
    refine WR.batch 2 [(0, .slice ad1 xs.length cap1), (1, .slice ad2 ys.length cap2), (5, .slice (some ⟨g7, 0, none⟩) 512 512), (6, .int .i64 ((k : Nat) : Int)), (17, .bool (decide (((k : Nat) : Int) < (512 : Int))))] (by kernel_rfl) ?_
    refine WR.fin (by kernel_rfl) ?_
    refine go hK20 ?_
    refine CW.cond (decide (((k : Nat) : Int) < (512 : Int))) (by kernel_rfl) (fun ht21 => ?_) (fun ht21 => ?_)
    ·
      replace ht21 : ((k : Nat) : Int) < (512 : Int) := (of_decide_eq_true ht21)
      refine CW.skip ?_
      refine go hK19 ?_
      refine CW.seq fun K22 hK22 => ?_
      refine CW.block ?_
      refine CW.region ?_
      refine WR.batch 4 [(0, .slice ad1 xs.length cap1), (1, .slice ad2 ys.length cap2), (5, .slice (some ⟨g7, 0, none⟩) 512 512), (6, .int .i64 ((k : Nat) : Int)), (20, .slice (some ⟨g7, 0, none⟩) 512 512), (21, .int .i64 ((k : Nat) : Int)), (22, .slice ad1 xs.length cap1), (23, .int .i64 ((k : Nat) : Int))] (by kernel_rfl) ?_
      refine WR.index (dst := some 24) (t := 22) (m := xs.length) (cap := cap1) (kk := .i64) (i := ((k : Nat) : Int)) (h1.pure hC18) (by kernel_rfl) 1 (by kernel_rfl) (by omega) (by omega) (mapNe _ _ (k) (by omega)) k (by omega) ?_
      refine WR.load1 (dst := some 25) (t := 4) (a := ⟨bk ad1, of ad1 + k, none⟩) (by kernel_rfl) (by kernel_rfl) (.bool (xs.getD k false)) ((h1.pure hC18) _ _ (getMap _ xs (k) false (by omega))).2 ?_
      refine WR.batch 1 [(0, .slice ad1 xs.length cap1), (1, .slice ad2 ys.length cap2), (5, .slice (some ⟨g7, 0, none⟩) 512 512), (6, .int .i64 ((k : Nat) : Int)), (20, .slice (some ⟨g7, 0, none⟩) 512 512), (21, .int .i64 ((k : Nat) : Int)), (26, .bool (xs.getD k false))] (by kernel_rfl) ?_
      refine WR.merge 12 [(0, .slice ad1 xs.length cap1), (1, .slice ad2 ys.length cap2), (5, .slice (some ⟨g7, 0, none⟩) 512 512), (6, .int .i64 ((k : Nat) : Int)), (20, .slice (some ⟨g7, 0, none⟩) 512 512), (21, .int .i64 ((k : Nat) : Int)), (31, .bool ((xs.getD k false) && (ys.getD k false)))] (fun Q' => ?_) ?_
      ·
        cases hg23 : xs.getD k false
        ·
          intro hM24
          refine WR.batch 5 [(0, .slice ad1 xs.length cap1), (1, .slice ad2 ys.length cap2), (5, .slice (some ⟨g7, 0, none⟩) 512 512), (6, .int .i64 ((k : Nat) : Int)), (20, .slice (some ⟨g7, 0, none⟩) 512 512), (21, .int .i64 ((k : Nat) : Int)), (31, .bool false)] (by kernel_rfl) ?_
          exact WR.keep [0, 1, 5, 6, 20, 21, 31] (by kernel_rfl) hM24
        ·
          intro hM24
          refine WR.batch 2 [(0, .slice ad1 xs.length cap1), (1, .slice ad2 ys.length cap2), (5, .slice (some ⟨g7, 0, none⟩) 512 512), (6, .int .i64 ((k : Nat) : Int)), (20, .slice (some ⟨g7, 0, none⟩) 512 512), (21, .int .i64 ((k : Nat) : Int)), (26, .bool true), (27, .slice ad2 ys.length cap2), (28, .int .i64 ((k : Nat) : Int))] (by kernel_rfl) ?_
          refine WR.index (dst := some 29) (t := 22) (m := ys.length) (cap := cap2) (kk := .i64) (i := ((k : Nat) : Int)) (h2.pure hC18) (by kernel_rfl) 1 (by kernel_rfl) (by omega) (by omega) (mapNe _ _ (k) (by omega)) k (by omega) ?_
          refine WR.load1 (dst := some 30) (t := 4) (a := ⟨bk ad2, of ad2 + k, none⟩) (by kernel_rfl) (by kernel_rfl) (.bool (ys.getD k false)) ((h2.pure hC18) _ _ (getMap _ ys (k) false (by omega))).2 ?_
          refine WR.batch 1 [(0, .slice ad1 xs.length cap1), (1, .slice ad2 ys.length cap2), (5, .slice (some ⟨g7, 0, none⟩) 512 512), (6, .int .i64 ((k : Nat) : Int)), (20, .slice (some ⟨g7, 0, none⟩) 512 512), (21, .int .i64 ((k : Nat) : Int)), (31, .bool (ys.getD k false))] (by kernel_rfl) ?_
          exact WR.keep [0, 1, 5, 6, 20, 21, 31] (by kernel_rfl) hM24
      ·
        refine WR.index (dst := some 32) (t := 22) (m := 512) (cap := 512) (kk := .i64) (i := ((k : Nat) : Int)) ho.rg (by kernel_rfl) 1 (by kernel_rfl) (by omega) (by omega) (mapNe _ (joinR xs ys k) (k) (by rw [joinR_len hk]; omega)) k (by omega) ?_
        refine WR.storeE (t := 4) (j := k) (v := .bool ((xs.getD k false) && (ys.getD k false))) ho (by kernel_rfl) (by kernel_rfl) rfl rfl (by omega) ?_
        intro w25 ho26 hc27
        have hz30 := hc27.size
        have hC29 := hC18.own hc27 (blks_ge ho (by omega))
        have ho28 := (boSet ho26)
        refine WR.fin (by kernel_rfl) ?_
        refine go hK22 ?_
        refine CW.region ?_
        refine WR.batch 2 [(0, .slice ad1 xs.length cap1), (1, .slice ad2 ys.length cap2), (5, .slice (some ⟨g7, 0, none⟩) 512 512), (19, .int .i64 (IntKind.i64.wrap (((k : Nat) : Int) + (1 : Int))))] (by kernel_rfl) ?_
        have hw31 : IntKind.i64.wrap (((k : Nat) : Int) + (1 : Int)) = (((k : Nat) : Int) + (1 : Int)) := IntWalk.i64_in _ (by omega)
        refine WR.eqF (F' := [(0, .slice ad1 xs.length cap1), (1, .slice ad2 ys.length cap2), (5, .slice (some ⟨g7, 0, none⟩) 512 512), (19, .int .i64 (((k : Nat) : Int) + (1 : Int)))]) (by rw [hw31]) ?_
        refine WR.batch 1 [(0, .slice ad1 xs.length cap1), (1, .slice ad2 ys.length cap2), (5, .slice (some ⟨g7, 0, none⟩) 512 512), (6, .int .i64 (((k : Nat) : Int) + (1 : Int)))] (by kernel_rfl) ?_
        refine WR.fin (by kernel_rfl) ?_
        exact fun _ ha => ⟨k + 1, ⟨hC29, (by omega), by rw [← joinR_set (by omega)]; exact ho28⟩, (by dsimp only; omega), ha.keep [0, 1, 5, 6] (by kernel_rfl)⟩
    ·
      replace ht21 : ¬ (((k : Nat) : Int) < (512 : Int)) := (of_decide_eq_false ht21)
      refine CW.exit ?_
      refine go hK15 ?_
      refine CW.seq fun K32 hK32 => ?_
      refine CW.region ?_
      refine WR.batch 2 [(4, .slice (some ⟨g7, 0, none⟩) 512 512)] (by kernel_rfl) ?_
      refine WR.fin (by kernel_rfl) ?_
      refine go hK32 ?_
      refine CW.ret ?_
      exact retV (.slice (some ⟨g7, 0, none⟩) 512 512) (by kernel_rfl) ⟨hC18, by have e : joinL xs ys = joinR xs ys k := (by rw [joinL_ok hl, show k = 512 by omega, joinR_all]); rw [e]; exact ⟨(some ⟨g7, 0, none⟩), 512, _, by rw [joinR_len hk], by rw [joinR_len hk]; exact ho⟩⟩

theorem refSet_any (ad : Option Addr) (cap : Nat) (xs : List Bool) (at_ size : Int) (w : World) (hr : Rg w ad (bo xs)) (_hsize : -9223372036854775808 ≤ size ∧ size ≤ 9223372036854775807) (_hm : xs.length ≤ 1000000000000) (hnil : ad = none → xs.length = 0 ∧ cap = 0) : Calls Try.prog 10 #[.slice ad xs.length cap, .int .i64 at_, .int .i64 size] w (Ret [] w fun v w' => ∃ ad cap e, v = .tuple #[.slice ad (setL xs at_ size).length cap, .int .i64 (placeE xs.length at_ size)] ∧ Own w' w.heap.size e 1 ad (setL xs at_ size).length cap (bo (setL xs at_ size))) := by
  refine calls_of_CW Try.func10 rfl (n := 33) Try.ntmps10 (by kernel_rfl) [0, 1, 2] (F := [(0, .slice ad xs.length cap), (1, .int .i64 at_), (2, .int .i64 size)]) (by kernel_rfl) ?_
  refine CW.seq fun K1 hK1 => ?_
  refine CW.region ?_
  refine WR.batch 2 [(0, .slice ad xs.length cap), (1, .int .i64 at_), (2, .int .i64 size)] (by kernel_rfl) ?_
  refine WR.fin (by kernel_rfl) ?_
  refine go hK1 ?_
  refine CW.seq fun K2 hK2 => ?_
  refine CW.seq fun K3 hK3 => ?_
  refine CW.region ?_
  refine WR.batch 3 [(0, .slice ad xs.length cap), (1, .int .i64 at_), (2, .int .i64 size), (11, .slice ad xs.length cap), (12, .int .i64 at_), (13, .int .i64 size)] (by kernel_rfl) ?_
  refine WR.call (dst := some 14) (by kernel_rfl) (place_any ad xs.length cap at_ size w (by omega)) ?_
  rintro _ w4 hc5 rfl
  have hz7 := hc5.size
  have hC6 := (Chg.refl [] w).pure hc5
  refine WR.batch 1 [(0, .slice ad xs.length cap), (1, .int .i64 at_), (2, .int .i64 size), (8, .int .i64 (placeE xs.length at_ size))] (by kernel_rfl) ?_
  refine WR.fin (by kernel_rfl) ?_
  refine go hK3 ?_
  refine CW.seq fun K8 hK8 => ?_
  refine CW.region ?_
  refine WR.batch 2 [(0, .slice ad xs.length cap), (1, .int .i64 at_), (2, .int .i64 size), (8, .int .i64 (placeE xs.length at_ size)), (16, .bool ((placeE xs.length at_ size) != (0 : Int)))] (by kernel_rfl) ?_
  refine WR.fin (by kernel_rfl) ?_
  refine go hK8 ?_
  refine CW.cond (((placeE xs.length at_ size) != (0 : Int))) (by kernel_rfl) (fun ht9 => ?_) (fun ht9 => ?_)
  ·
    replace ht9 : (placeE xs.length at_ size) ≠ (0 : Int) := (bNeT ht9)
    have hpn := ht9
    refine CW.seq fun K10 hK10 => ?_
    refine CW.region ?_
    refine WR.batch 3 [(6, .slice none 0 0), (7, .int .i64 (placeE xs.length at_ size))] (by kernel_rfl) ?_
    refine WR.fin (by kernel_rfl) ?_
    refine go hK10 ?_
    refine CW.ret ?_
    exact retV (.tuple #[.slice none 0 0, .int .i64 (placeE xs.length at_ size)]) (by kernel_rfl) ⟨hC6, by rw [setL_no hpn]; exact ⟨none, 0, 0, rfl, Own.nil _ _ _ _⟩⟩
  ·
    replace ht9 : (placeE xs.length at_ size) = (0 : Int) := (bNeF ht9)
    have hp := place_ok ht9
    have hp0 := ht9
    refine CW.skip ?_
    refine go hK2 ?_
    refine CW.seq fun K11 hK11 => ?_
    refine CW.region ?_
    refine WR.bslice (dst := some 18) (len := 0) (e := 4) #[] (by kernel_rfl) ?_
    intro g12 w13 hN14
    have hf16 : w.heap.size ≤ g12 := Nat.le_trans hC6.size hN14.fresh
    have hfr18 := hN14.fresh
    have hc17 := hN14.chg
    have hz20 := hc17.size
    have hC19 := hC6.pure hc17
    have hb15 := hN14.blk
    have hg21 := hb15.lt
    refine WR.batch 1 [(1, .int .i64 at_), (2, .int .i64 size), (18, .slice (some ⟨g12, 0, none⟩) 0 0), (19, .slice ad xs.length cap)] (by kernel_rfl) ?_
    have ho22 : Own w13 w.heap.size 4 1 (some ⟨g12, 0, none⟩) 0 0 (bo ([])) := Own.ofBlk hb15 (by omega) (by omega) (by omega) rfl _ rfl
    refine WR.append (dst := some 20) (t := 22) (e := 4) (sz := 1) (by_ := 1) (zc := #[.bool false]) (m := 0) (cap := 0) (xm := xs.length) (xcap := cap) (news := bo (xs)) ho22 (hr.pure hC19) (by kernel_rfl) (by kernel_rfl) (by simp [bo]) (by omega) (boOne _) (by omega) (by omega) (by omega) hnil ?_
    intro ad23 cap24 w25 ho26 hc27 hw28
    have hz30 := hc27.size
    have hC29 := hC19.own hc27 (blks_ge ho22 (by omega))
    refine WR.eqF (F' := upd [(1, .int .i64 at_), (2, .int .i64 size), (18, .slice (some ⟨g12, 0, none⟩) 0 0), (19, .slice ad xs.length cap)] (some 20) (.slice ad23 xs.length cap24)) (by rw [Nat.zero_add]) ?_
    have ho31 : Own w25 w.heap.size 4 1 ad23 (xs.length) cap24 (bo (xs)) := by rw [Nat.zero_add] at ho26; exact ho26
    have hle32 := ho31.le
    refine WR.batch 1 [(1, .int .i64 at_), (2, .int .i64 size), (9, .slice ad23 xs.length cap24)] (by kernel_rfl) ?_
    refine WR.fin (by kernel_rfl) ?_
    refine go hK11 ?_
    refine CW.seq fun K33 hK33 => ?_
    refine CW.seq fun K34 hK34 => ?_
    refine CW.region ?_
    refine WR.batch 1 [(1, .int .i64 at_), (2, .int .i64 size), (9, .slice ad23 xs.length cap24), (10, .int .i64 (0 : Int))] (by kernel_rfl) ?_
    refine WR.fin (by kernel_rfl) ?_
    refine go hK34 ?_
    refine CW.block ?_
    refine CW.loop (σ := Nat) (fun k w35 => Chg [] w w35 ∧ ((k : Int) ≤ size) ∧ (Own w35 w.heap.size 4 1 ad23 xs.length cap24 (bo (setTo xs (at_ + 512).toNat k)))) (fun k => [(1, .int .i64 at_), (2, .int .i64 size), (9, .slice ad23 xs.length cap24), (10, .int .i64 ((k : Nat) : Int))]) (fun k => size.toNat - k) (0) ⟨hC29, (by omega), ho31⟩ [1, 2, 9, 10] (by kernel_rfl) ?_
    rintro k w35 ⟨hC36, hk, ho⟩
    refine CW.seq fun K37 hK37 => ?_
    refine CW.seq fun K38 hK38 => ?_
    refine CW.region ?_
    refine WR.batch 3 [(1, .int .i64 at_), (2, .int .i64 size), (9, .slice ad23 xs.length cap24), (10, .int .i64 ((k : Nat) : Int)), (23, .bool (decide (((k : Nat) : Int) < size)))] (by kernel_rfl) ?_
    refine WR.fin (by kernel_rfl) ?_
    refine go hK38 ?_
    refine CW.cond (decide (((k : Nat) : Int) < size)) (by kernel_rfl) (fun ht39 => ?_) (fun ht39 => ?_)
    ·
      replace ht39 : ((k : Nat) : Int) < size := (of_decide_eq_true ht39)
      refine CW.skip ?_
      refine go hK37 ?_
      refine CW.seq fun K40 hK40 => ?_
      refine CW.block ?_
      refine CW.region ?_
      refine WR.batch 3 [(1, .int .i64 at_), (2, .int .i64 size), (9, .slice ad23 xs.length cap24), (10, .int .i64 ((k : Nat) : Int)), (26, .slice ad23 xs.length cap24), (28, .int .i64 (IntKind.i64.wrap (at_ + (512 : Int))))] (by kernel_rfl) ?_
      have hw41 : IntKind.i64.wrap (at_ + (512 : Int)) = (at_ + (512 : Int)) := IntWalk.i64_in _ (by omega)
      refine WR.eqF (F' := [(1, .int .i64 at_), (2, .int .i64 size), (9, .slice ad23 xs.length cap24), (10, .int .i64 ((k : Nat) : Int)), (26, .slice ad23 xs.length cap24), (28, .int .i64 (at_ + (512 : Int)))]) (by rw [hw41]) ?_
      refine WR.batch 2 [(1, .int .i64 at_), (2, .int .i64 size), (9, .slice ad23 xs.length cap24), (10, .int .i64 ((k : Nat) : Int)), (26, .slice ad23 xs.length cap24), (30, .int .i64 (IntKind.i64.wrap ((at_ + (512 : Int)) + ((k : Nat) : Int))))] (by kernel_rfl) ?_
      have hw42 : IntKind.i64.wrap ((at_ + (512 : Int)) + ((k : Nat) : Int)) = ((at_ + (512 : Int)) + ((k : Nat) : Int)) := IntWalk.i64_in _ (by omega)
      refine WR.eqF (F' := [(1, .int .i64 at_), (2, .int .i64 size), (9, .slice ad23 xs.length cap24), (10, .int .i64 ((k : Nat) : Int)), (26, .slice ad23 xs.length cap24), (30, .int .i64 ((at_ + (512 : Int)) + ((k : Nat) : Int)))]) (by rw [hw42]) ?_
      refine WR.index (dst := some 31) (t := 22) (m := xs.length) (cap := cap24) (kk := .i64) (i := ((at_ + (512 : Int)) + ((k : Nat) : Int))) ho.rg (by kernel_rfl) 1 (by kernel_rfl) (by omega) (by omega) (mapNe _ (setTo xs (at_ + 512).toNat k) ((((at_ + (512 : Int)) + ((k : Nat) : Int))).toNat) (by rw [setTo_len]; omega)) (((at_ + (512 : Int)) + ((k : Nat) : Int))).toNat (by omega) ?_
      refine WR.storeE (t := 4) (j := (((at_ + (512 : Int)) + ((k : Nat) : Int))).toNat) (v := .bool true) ho (by kernel_rfl) (by kernel_rfl) rfl rfl (by omega) ?_
      intro w43 ho44 hc45
      have hz48 := hc45.size
      have hC47 := hC36.own hc45 (blks_ge ho (by omega))
      have ho46 := (boSet ho44)
      refine WR.fin (by kernel_rfl) ?_
      refine go hK40 ?_
      refine CW.region ?_
      refine WR.batch 2 [(1, .int .i64 at_), (2, .int .i64 size), (9, .slice ad23 xs.length cap24), (25, .int .i64 (IntKind.i64.wrap (((k : Nat) : Int) + (1 : Int))))] (by kernel_rfl) ?_
      have hw49 : IntKind.i64.wrap (((k : Nat) : Int) + (1 : Int)) = (((k : Nat) : Int) + (1 : Int)) := IntWalk.i64_in _ (by omega)
      refine WR.eqF (F' := [(1, .int .i64 at_), (2, .int .i64 size), (9, .slice ad23 xs.length cap24), (25, .int .i64 (((k : Nat) : Int) + (1 : Int)))]) (by rw [hw49]) ?_
      refine WR.batch 1 [(1, .int .i64 at_), (2, .int .i64 size), (9, .slice ad23 xs.length cap24), (10, .int .i64 (((k : Nat) : Int) + (1 : Int)))] (by kernel_rfl) ?_
      refine WR.fin (by kernel_rfl) ?_
      exact fun _ ha => ⟨k + 1, ⟨hC47, (by omega), by rw [setTo, show (at_ + 512).toNat + k = (at_ + 512 + (k : Int)).toNat by omega]; exact ho46⟩, (by dsimp only; omega), ha.keep [1, 2, 9, 10] (by kernel_rfl)⟩
    ·
      replace ht39 : ¬ (((k : Nat) : Int) < size) := (of_decide_eq_false ht39)
      refine CW.exit ?_
      refine go hK33 ?_
      refine CW.seq fun K50 hK50 => ?_
      refine CW.region ?_
      refine WR.batch 3 [(6, .slice ad23 xs.length cap24), (7, .int .i64 (0 : Int))] (by kernel_rfl) ?_
      refine WR.fin (by kernel_rfl) ?_
      refine go hK50 ?_
      refine CW.ret ?_
      exact retV (.tuple #[.slice ad23 xs.length cap24, .int .i64 (0 : Int)]) (by kernel_rfl) ⟨hC36, by have e : setL xs at_ size = setTo xs (at_ + 512).toNat k := (by rw [setL_ok hp0, show size.toNat = k by omega]); rw [e, hp0]; exact ⟨ad23, cap24, _, by rw [setTo_len], by rw [setTo_len]; exact ho⟩⟩
end Go.V
