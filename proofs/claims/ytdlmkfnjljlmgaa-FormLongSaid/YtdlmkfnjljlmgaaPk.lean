/- Lists that are the same, that are lent, that are kept. -/
import Derived.Test.YtdlmkfnjljlmgaaPb
namespace Go.Y
open Go.RowKit Go.V Go.X Go.Proofs

theorem wrap64 {x : Int} (h : -9223372036854775808 ≤ x ∧ x ≤ 9223372036854775807) : IntKind.i64.wrap x = x := by
  unfold IntKind.wrap; simp [IntKind.bits, IntKind.signed]; omega
/-- a loop that counts up; each round takes c of fuel. -/
theorem loop {α : Type} (f : Nat → Nat → Option α) (c len : Nat) (r : Option α) (hstep : ∀ n k, k < len → f (n + c) k = f n (k + 1)) (hend : ∀ n, f (n + 1) len = r) : ∀ m k n, k + m = len → c * m + 1 ≤ n → f n k = r
  | 0, k, n, hk, hn => by
    obtain ⟨n', rfl⟩ : ∃ n', n = n' + 1 := ⟨n - 1, by omega⟩
    have : k = len := by omega
    subst this; exact hend n'
  | m + 1, k, n, hk, hn => by
    obtain ⟨n', rfl⟩ : ∃ n', n = n' + c := ⟨n - c, by rw [Nat.mul_succ] at hn; omega⟩
    rw [hstep n' k (by omega)]
    exact loop f c len r hstep hend m (k + 1) n' (by omega) (by rw [Nat.mul_succ] at hn; omega)
theorem loop0 {α : Type} (f : Nat → Nat → Option α) (c len : Nat) (r : Option α) (hstep : ∀ n k, k < len → f (n + c) k = f n (k + 1)) (hend : ∀ n, f (n + 1) len = r) (n : Nat) (hn : c * len + 1 ≤ n) : f n 0 = r := loop f c len r hstep hend len 0 n (by omega) hn
theorem nx {k len : Nat} (h : k < len) (hl : len ≤ 1000000000) : IntKind.i64.wrap ((k : Int) + 1) = ((k + 1 : Nat) : Int) := by rw [wrap64 (by omega)]; omega
theorem sameInts (a : List Int) (h : a.length ≤ 400000000) : kitSameInts BIG a a = some true := by
  rw [kitSameInts_eq]
  rw [show (((a.length : Nat) : Int) != ((a.length : Nat) : Int)) = false by simp, forkB_false]
  refine loop0 (fun n k => kitSameInts_L0 n a a (k : Int)) 1 a.length _ (fun n k hk => ?_) (fun n => ?_) BIG (by unfold BIG; omega)
  · show kitSameInts_L0 (n + 1) a a (k : Int) = kitSameInts_L0 n a a ((k + 1 : Nat) : Int)
    rw [kitSameInts_L0_eq, decide_eq_true (by omega), forkB_true, if_pos (by omega), if_pos (by omega), nx hk (by omega)]
    simp [forkB_false]
  · show kitSameInts_L0 (n + 1) a a ((a.length : Nat) : Int) = some true
    rw [kitSameInts_L0_eq, decide_eq_false (by omega), forkB_false]
theorem sameBytes (a : List Int) (h : a.length ≤ 400000000) : kitSameBytes BIG a a = some true := by
  rw [kitSameBytes_eq]
  rw [show (((a.length : Nat) : Int) != ((a.length : Nat) : Int)) = false by simp, forkB_false]
  refine loop0 (fun n k => kitSameBytes_L0 n a a (k : Int)) 1 a.length _ (fun n k hk => ?_) (fun n => ?_) BIG (by unfold BIG; omega)
  · show kitSameBytes_L0 (n + 1) a a (k : Int) = kitSameBytes_L0 n a a ((k + 1 : Nat) : Int)
    rw [kitSameBytes_L0_eq, decide_eq_true (by omega), forkB_true, if_pos (by omega), if_pos (by omega), nx hk (by omega)]
    simp [forkB_false]
  · show kitSameBytes_L0 (n + 1) a a ((a.length : Nat) : Int) = some true
    rw [kitSameBytes_L0_eq, decide_eq_false (by omega), forkB_false]
theorem sameIns (a : List Ins) (h : a.length ≤ 400000000) : kitSameIns BIG a a = some true := by
  rw [kitSameIns_eq]
  rw [show (((a.length : Nat) : Int) != ((a.length : Nat) : Int)) = false by simp, forkB_false]
  refine loop0 (fun n k => kitSameIns_L0 n a a (k : Int)) 1 a.length _ (fun n k hk => ?_) (fun n => ?_) BIG (by unfold BIG; omega)
  · show kitSameIns_L0 (n + 1) a a (k : Int) = kitSameIns_L0 n a a ((k + 1 : Nat) : Int)
    rw [kitSameIns_L0_eq, decide_eq_true (by omega), forkB_true, if_pos (by omega), if_pos (by omega), nx hk (by omega)]
    simp [forkB_false]
  · show kitSameIns_L0 (n + 1) a a ((a.length : Nat) : Int) = some true
    rw [kitSameIns_L0_eq, decide_eq_false (by omega), forkB_false]
def markI (k : Nat) : Ins := ⟨0, false, 0, 0, false, IntKind.i64.wrap (8000024 + (k : Int)), 0, 0⟩
theorem markIns_p (k : Nat) : kit_markIns BIG 1 (k : Int) = some (markI k) := by
  rw [kit_markIns_eq, kit_mark_eq]; rfl
def marksI : List Ins := (List.range 12).map markI
theorem lentIns (l : List Ins) (h : l.length ≤ 1000000) : kitLentIns_g1 BIG l = some ((), ((l ++ marksI, 0, l.length), ())) := by
  rw [kitLentIns_g1_eq, wrap64 (by omega), if_pos (by omega), if_pos (by simp; omega)]
  have := loop0 (fun n k => kitLentIns_g1_L0 n l (k : Int) (l ++ (List.range k).map markI)) 1 12 (some ((), ((l ++ marksI, 0, l.length), ()))) (fun n k hk => ?_) (fun n => ?_) BIG (by decide)
  · simpa using this
  · show kitLentIns_g1_L0 (n + 1) l (k : Int) _ = kitLentIns_g1_L0 n l ((k + 1 : Nat) : Int) _
    rw [kitLentIns_g1_L0_eq, decide_eq_true (by omega), forkB_true, markIns_p, obind_of, if_pos (by simp; omega), nx (len := 12) hk (by omega), List.append_assoc, List.range_succ, List.map_append]
    rfl
  · show kitLentIns_g1_L0 (n + 1) l ((12 : Nat) : Int) _ = _
    rw [kitLentIns_g1_L0_eq, decide_eq_false (by omega), forkB_false, if_pos ⟨by omega, by omega, by rw [List.length_append]; omega⟩]
    simp [marksI]
theorem keptIns (l : List Ins) (h : l.length ≤ 1000000) : kitKeptIns_g1 BIG (l ++ marksI) 0 l.length l = some ((l ++ marksI, ()), (true, ())) := by
  have hm : marksI.length = 12 := rfl
  rw [kitKeptIns_g1_eq, wrap64 (by omega), show (((l.length : Nat) : Int) != ((l.length : Nat) : Int)) = false by simp, forkB_false, if_pos (by rw [List.length_append, hm]; omega)]
  rw [show (((l.length : Nat) : Int) + 12).toNat - 0 = l.length + 12 by omega]
  refine loop0 (fun n k => kitKeptIns_g1_L0 n l 0 (l.length + 12) (k : Int) (l ++ marksI)) 2 (l.length + 12) _ (fun n k hk => ?_) (fun n => ?_) BIG (by unfold BIG; omega)
  · show kitKeptIns_g1_L0 (n + 1 + 1) l 0 (l.length + 12) (k : Int) (l ++ marksI) = kitKeptIns_g1_L0 n l 0 (l.length + 12) ((k + 1 : Nat) : Int) (l ++ marksI)
    have e : ∀ b, kitKeptIns_g1_J1 (n + 1) l 0 (l.length + 12) (k : Int) b (l ++ marksI) = if b = true then some ((l ++ marksI, ()), (false, ())) else kitKeptIns_g1_L0 n l 0 (l.length + 12) ((k + 1 : Nat) : Int) (l ++ marksI) := by
      intro b
      rw [kitKeptIns_g1_J1_eq, nx hk (by omega)]; rfl
    have hk2 : 0 + (k : Int).toNat < (l ++ marksI).length := by rw [List.length_append, hm]; omega
    rw [kitKeptIns_g1_L0_eq, decide_eq_true (by omega), forkB_true]
    by_cases hkl : k < l.length
    · rw [decide_eq_true (by omega), forkB_true, if_pos (by omega), if_pos hk2, if_pos (by omega)]
      have : (l ++ marksI).getD (0 + (k : Int).toNat) dIns = l.getD (k : Int).toNat dIns := by
        rw [Nat.zero_add, List.getD_eq_getElem?_getD, List.getD_eq_getElem?_getD, List.getElem?_append_left (by omega)]
      rw [this]
      simp only [beq_self_eq_true, Bool.and_self, Bool.not_true, forkB_false]
      rw [decide_eq_false (by omega), forkB_false, e, if_neg (by simp)]
    · rw [decide_eq_false (by omega), forkB_false, decide_eq_true (by omega), forkB_true, if_pos (by omega), if_pos hk2, wrap64 (by omega), show ((k : Int) - (l.length : Int)) = ((k - l.length : Nat) : Int) by omega, markIns_p, obind_of]
      have : (l ++ marksI).getD (0 + (k : Int).toNat) dIns = markI (k - l.length) := by
        rw [Nat.zero_add, List.getD_eq_getElem?_getD, List.getElem?_append_right (by omega), show (k : Int).toNat = k by omega]
        unfold marksI
        rw [List.getElem?_map, List.getElem?_range (by omega)]; rfl
      rw [this]
      simp only [beq_self_eq_true, Bool.and_self, Bool.not_true]
      rw [e, if_neg (by simp)]
  · show kitKeptIns_g1_L0 (n + 1) l 0 (l.length + 12) ((l.length + 12 : Nat) : Int) (l ++ marksI) = _
    rw [kitKeptIns_g1_L0_eq, decide_eq_false (by omega), forkB_false]
theorem awake06 : law06_awake BIG = some true := by kernel_rfl
end Go.Y
