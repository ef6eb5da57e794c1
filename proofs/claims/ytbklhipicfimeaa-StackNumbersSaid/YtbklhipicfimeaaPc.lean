/- Rows that are the same, that are lent, that are kept; the laws of rows. -/
import Derived.Test.YtbklhipicfimeaaPb
namespace Go.Y
open Go.RowKit Go.V Go.X Go.Proofs

theorem sameTruths (a : List Bool) (h : a.length ≤ 400000000) : kitSameTruths BIG a a = some true := by
  rw [kitSameTruths_eq]
  rw [show (((a.length : Nat) : Int) != ((a.length : Nat) : Int)) = false by simp, forkB_false]
  refine loop0 (fun n k => kitSameTruths_L0 n a a (k : Int)) 1 a.length _ (fun n k hk => ?_) (fun n => ?_) BIG (by unfold BIG; omega)
  · show kitSameTruths_L0 (n + 1) a a (k : Int) = kitSameTruths_L0 n a a ((k + 1 : Nat) : Int)
    rw [kitSameTruths_L0_eq, decide_eq_true (by omega), forkB_true, if_pos (by omega), if_pos (by omega), nx hk (by omega)]
    simp [forkB_false]
  · show kitSameTruths_L0 (n + 1) a a ((a.length : Nat) : Int) = some true
    rw [kitSameTruths_L0_eq, decide_eq_false (by omega), forkB_false]
def markT (k : Nat) : Bool := (IntKind.i64.wrap (8000024 + (k : Int))).tmod 3 == 0
theorem mark_p (k : Nat) : kit_mark BIG 1 (k : Int) = some (IntKind.i64.wrap (8000024 + (k : Int))) := by rw [kit_mark_eq]; rfl
def marksT : List Bool := (List.range 12).map markT
theorem lentTruths (l : List Bool) (h : l.length ≤ 1000000) : kitLentTruths_g1 BIG l = some ((), ((l ++ marksT, 0, l.length), ())) := by
  rw [kitLentTruths_g1_eq, wrap64 (by omega), if_pos (by omega), if_pos (by simp; omega)]
  have := loop0 (fun n k => kitLentTruths_g1_L0 n l (k : Int) (l ++ (List.range k).map markT)) 1 12 (some ((), ((l ++ marksT, 0, l.length), ()))) (fun n k hk => ?_) (fun n => ?_) BIG (by decide)
  · simpa using this
  · show kitLentTruths_g1_L0 (n + 1) l (k : Int) _ = kitLentTruths_g1_L0 n l ((k + 1 : Nat) : Int) _
    rw [kitLentTruths_g1_L0_eq, decide_eq_true (by omega), forkB_true, mark_p, obind_of, if_pos (by simp; omega), nx (len := 12) hk (by omega), List.append_assoc, List.range_succ, List.map_append]
    rfl
  · show kitLentTruths_g1_L0 (n + 1) l ((12 : Nat) : Int) _ = _
    rw [kitLentTruths_g1_L0_eq, decide_eq_false (by omega), forkB_false, if_pos ⟨by omega, by omega, by rw [List.length_append]; omega⟩]
    simp [marksT]
theorem keptTruths (l : List Bool) (h : l.length ≤ 1000000) : kitKeptTruths_g1 BIG (l ++ marksT) 0 l.length l = some ((l ++ marksT, ()), (true, ())) := by
  have hm : marksT.length = 12 := rfl
  rw [kitKeptTruths_g1_eq, wrap64 (by omega), show (((l.length : Nat) : Int) != ((l.length : Nat) : Int)) = false by simp, forkB_false, if_pos (by rw [List.length_append, hm]; omega)]
  rw [show (((l.length : Nat) : Int) + 12).toNat - 0 = l.length + 12 by omega]
  refine loop0 (fun n k => kitKeptTruths_g1_L0 n l 0 (l.length + 12) (k : Int) (l ++ marksT)) 2 (l.length + 12) _ (fun n k hk => ?_) (fun n => ?_) BIG (by unfold BIG; omega)
  · show kitKeptTruths_g1_L0 (n + 1 + 1) l 0 (l.length + 12) (k : Int) (l ++ marksT) = kitKeptTruths_g1_L0 n l 0 (l.length + 12) ((k + 1 : Nat) : Int) (l ++ marksT)
    have e : ∀ b, kitKeptTruths_g1_J1 (n + 1) l 0 (l.length + 12) (k : Int) b (l ++ marksT) = if b = true then some ((l ++ marksT, ()), (false, ())) else kitKeptTruths_g1_L0 n l 0 (l.length + 12) ((k + 1 : Nat) : Int) (l ++ marksT) := by
      intro b
      rw [kitKeptTruths_g1_J1_eq, nx hk (by omega)]; rfl
    have hk2 : 0 + (k : Int).toNat < (l ++ marksT).length := by rw [List.length_append, hm]; omega
    rw [kitKeptTruths_g1_L0_eq, decide_eq_true (by omega), forkB_true]
    by_cases hkl : k < l.length
    · rw [decide_eq_true (by omega), forkB_true, if_pos (by omega), if_pos hk2, if_pos (by omega)]
      have : (l ++ marksT).getD (0 + (k : Int).toNat) false = l.getD (k : Int).toNat false := by
        rw [Nat.zero_add, List.getD_eq_getElem?_getD, List.getD_eq_getElem?_getD, List.getElem?_append_left (by omega)]
      rw [this]
      simp only [beq_self_eq_true, Bool.and_self, Bool.not_true, forkB_false]
      rw [decide_eq_false (by omega), forkB_false, e, if_neg (by simp)]
    · rw [decide_eq_false (by omega), forkB_false, decide_eq_true (by omega), forkB_true, if_pos (by omega), if_pos hk2, wrap64 (by omega), show ((k : Int) - (l.length : Int)) = ((k - l.length : Nat) : Int) by omega, mark_p, obind_of]
      have : (l ++ marksT).getD (0 + (k : Int).toNat) false = markT (k - l.length) := by
        rw [Nat.zero_add, List.getD_eq_getElem?_getD, List.getElem?_append_right (by omega), show (k : Int).toNat = k by omega]
        unfold marksT
        rw [List.getElem?_map, List.getElem?_range (by omega)]; rfl
      rw [this]
      unfold markT
      simp only [beq_self_eq_true, Bool.and_self, Bool.not_true]
      rw [e, if_neg (by simp)]
  · show kitKeptTruths_g1_L0 (n + 1) l 0 (l.length + 12) ((l.length + 12 : Nat) : Int) (l ++ marksT) = _
    rw [kitKeptTruths_g1_L0_eq, decide_eq_false (by omega), forkB_false]
theorem new_p : stackNew BIG = some (List.replicate 512 false) := by rw [stackNew_eq, if_pos (by omega)]
theorem new_r : ref13New BIG = some (List.replicate 512 false) := by rw [ref13New_eq, if_pos (by omega)]
theorem awake13 : law13_awake BIG = some true := by kernel_rfl
theorem setP_len (b : List Bool) (at_ sz : Int) : (setP b at_ sz).1.length ≤ b.length := by
  unfold setP; split
  · rw [fillN_len]; exact Nat.le_refl _
  · exact Nat.zero_le _
theorem joinR_len (a b : List Bool) : (joinR a b).length ≤ 512 := by
  unfold joinR; split
  · rw [joinN_len, List.length_replicate]; exact Nat.le_refl _
  · exact Nat.zero_le _
theorem lent_take (l m : List Bool) : List.take l.length (List.drop 0 (l ++ m)) = l := by rw [List.drop_zero, List.take_left]
theorem tells_end (a b : List Bool) (at_ sz : Int) (ha : a.length ≤ 3000) (hb : b.length ≤ 3000) (n : Nat) (k : Int) (r2 r4 : List Bool) :
    law13StackTells_J4 (n + 1) a b at_ sz 0 a.length 0 b.length k false (a ++ marksT) (b ++ marksT) r2 (setP a at_ sz).1 r4 = some true := by
  rw [law13StackTells_J4_eq, forkB_false, if_pos (by rw [List.length_append]; omega), lent_take, stackSet_r, obind_of, keptTruths a (by omega), obind_of, forkB_true, keptTruths b (by omega), obind_of, forkB_true,
    sameTruths _ (Nat.le_trans (setP_len _ _ _) (by omega)), obind_of, forkB_true]
  show (if 0 + a.length ≤ (a ++ marksT).length then (if 0 + b.length ≤ (b ++ marksT).length then obind (stackJoin BIG (List.take a.length (List.drop 0 (a ++ marksT))) (List.take b.length (List.drop 0 (b ++ marksT)))) _ else none) else none) = _
  rw [if_pos (by rw [List.length_append]; omega), if_pos (by rw [List.length_append]; omega), lent_take, lent_take, stackJoin_r, obind_of, join_r, obind_of, sameTruths _ (Nat.le_trans (joinR_len _ _) (by omega)), obind_of, forkB_true, awake13, obind_of]
theorem tells_loop (a b : List Bool) (at_ sz : Int) (ha : a.length ≤ 3000) (hb : b.length ≤ 3000) : ∀ (m k n : Nat) (r2 r4 : List Bool), k + m = r2.length → r2.length ≤ 3000 → 2 * m + 2 ≤ n →
    law13StackTells_L3 n a b at_ sz 0 a.length 0 b.length (k : Int) (a ++ marksT) (b ++ marksT) r2 (setP a at_ sz).1 r4 = some true
  | 0, k, n, r2, r4, hk, hr, hn => by
    obtain ⟨n', rfl⟩ : ∃ n', n = n' + 1 + 1 := ⟨n - 2, by omega⟩
    rw [law13StackTells_L3_eq, decide_eq_false (by omega), forkB_false, tells_end a b at_ sz ha hb]
  | m + 1, k, n, r2, r4, hk, hr, hn => by
    obtain ⟨n', rfl⟩ : ∃ n', n = n' + 1 + 1 := ⟨n - 2, by omega⟩
    rw [law13StackTells_L3_eq, decide_eq_true (by omega), forkB_true]
    by_cases h4 : (k : Int) < ((r4.length : Nat) : Int)
    · rw [decide_eq_true h4, law13StackTells_J4_eq, forkB_true, if_pos (by omega), if_pos (by omega), if_pos (by omega), if_pos (by omega), nx (len := r2.length) (by omega) (by omega)]
      exact tells_loop a b at_ sz ha hb m (k + 1) n' _ _ (by rw [List.length_set]; omega) (by rw [List.length_set]; omega) (by omega)
    · rw [decide_eq_false h4, tells_end a b at_ sz ha hb]
theorem stackTells_true (a b : List Bool) (at_ sz : Int) : law13StackTells BIG a b at_ sz = some true := by
  obtain ⟨n, e⟩ : ∃ n : Nat, (BIG : Nat) = n + 1 + 1 + 1 := ⟨999999997, rfl⟩
  have hn : ∀ {x y : Nat}, x ≤ y → y ≤ 3000 → 2 * x + 2 ≤ n := fun h1 h2 => by have : (1000000000 : Nat) = n + 1 + 1 + 1 := e; omega
  rw [law13StackTells_eq]
  have hj : ∀ c : Bool, (c = false → a.length ≤ 3000 ∧ b.length ≤ 3000) → law13StackTells_J0 BIG a b at_ sz c = some true := fun c hc => by
    rw [e, law13StackTells_J0_eq]
    cases c with
    | true => rw [forkB_true, awake13, obind_of]
    | false =>
      obtain ⟨ha, hb⟩ := hc rfl
      rw [forkB_false, lentTruths a (by omega), obind_of, lentTruths b (by omega), obind_of]
      dsimp only
      simp only [lent_take]
      rw [if_pos (by rw [List.length_append]; omega), stackSet_r, obind_of, set_r, obind_of]
      rw [if_pos (by rw [List.length_append]; omega), if_pos (by rw [List.length_append]; omega), stackJoin_r, obind_of, show ((setP a at_ sz).2 != (setP a at_ sz).2) = false by simp, forkB_false,
        sameTruths _ (Nat.le_trans (setP_len _ _ _) (by omega)), obind_of, Bool.not_true, forkB_false]
      rw [if_pos (by rw [List.length_append]; omega), stackRead_r, obind_of, read_r, obind_of, show (readP a at_ sz != readP a at_ sz) = false by simp, forkB_false]
      rw [if_pos (by rw [List.length_append]; omega), if_pos (by rw [List.length_append]; omega), stackWithin_r, obind_of, within_r, obind_of, beq_self_eq_true, Bool.not_true, forkB_false, join_r, obind_of,
        sameTruths _ (Nat.le_trans (joinR_len _ _) (by omega)), obind_of, Bool.not_true, forkB_false, new_p, obind_of, new_r, obind_of, sameTruths _ (by rw [List.length_replicate]; omega), obind_of, Bool.not_true]
      show law13StackTells_J1 (n + 1 + 1) a b at_ sz 0 a.length 0 b.length false (a ++ marksT) (b ++ marksT) (setP a at_ sz).1 (setP a at_ sz).1 (joinR a b) = _
      rw [law13StackTells_J1_eq, forkB_false, keptTruths a (by omega), obind_of, Bool.not_true, forkB_false, keptTruths b (by omega), obind_of, Bool.not_true]
      show law13StackTells_J2 (n + 1) a b at_ sz 0 a.length 0 b.length false (a ++ marksT) (b ++ marksT) (setP a at_ sz).1 (setP a at_ sz).1 (joinR a b) = _
      rw [law13StackTells_J2_eq, forkB_false]
      exact tells_loop a b at_ sz ha hb (setP a at_ sz).1.length 0 n _ _ (by omega) (Nat.le_trans (setP_len _ _ _) ha) (hn (setP_len a at_ sz) ha)
  by_cases ha : ((a.length : Nat) : Int) > 3000
  · rw [decide_eq_true ha, forkB_true, hj _ (by simp)]
  · rw [decide_eq_false ha, forkB_false, hj]
    intro h; have := of_decide_eq_false h; omega
end Go.Y
