/- A long shape: the law FormLong. -/
import Derived.Test.YtdlmkfnjljlmgaaQe
namespace Go.Y
open Go.RowKit Go.V Go.X Go.Proofs

def movJ (k : Nat) : Ins := ⟨12, false, 0, 0, true, 0, (k : Int), 0⟩
def jmpJ (y : Int) : Ins := ⟨17, false, 0, 0, false, y, 0, 0⟩
theorem fault_p (l : List Ins) (e a : Int) : law08_fault BIG l e a = some (((checkP l).Err == e) && ((checkP l).At == a)) := by
  rw [law08_fault_eq, check_p, obind_of]
theorem pick_q (x m : Int) (hm : 1 ≤ m ∧ m ≤ 4611686018427387904) : ∃ k : Nat, kitPick BIG x m = some ((k : Nat) : Int) ∧ (k : Int) < m := by
  rw [kitPick_eq, decide_eq_false (by omega), forkB_false, if_neg (by omega), forkB_if]
  have h1 : x.tmod m < m := Int.tmod_lt_of_pos x (by omega)
  have h2 : -m < x.tmod m := Int.lt_tmod_of_pos x (by omega)
  by_cases h : x.tmod m < 0
  · rw [if_pos (by simpa using h), wrap64 (by omega)]
    exact ⟨(x.tmod m + m).toNat, by rw [Int.toNat_of_nonneg (by omega)], by omega⟩
  · rw [if_neg (by simpa using h)]
    exact ⟨(x.tmod m).toNat, by rw [Int.toNat_of_nonneg (by omega)], by omega⟩
theorem right_mov (k : Nat) (h : k ≤ 5000) : rightP (movJ k) = true := by
  unfold rightP movJ
  simp [regP, secondP]
  omega
theorem right_jmp (y : Int) (h : 0 ≤ y ∧ y ≤ 5000) : rightP (jmpJ y) = true := by
  unfold rightP jmpJ
  simp [regP, secondP, farP]
  omega
section
variable {l : List Ins} {m : Nat} {y : Int} (hL : l.length = m + 1) (hm : 1 ≤ m) (hm2 : m ≤ 4095) (hy : 0 ≤ y ∧ y ≤ 5000)
  (g0 : l.getD 0 dIns = jmpJ y) (g1 : ∀ k, 1 ≤ k → k < m → l.getD k dIns = movJ k) (g2 : l.getD m dIns = exitJ)
include hL hm hm2 hy g0 g1 g2
theorem long_next (k : Nat) (hk : k < m) : ((k : Int) + 1) ∈ nextP l (k : Int) := by
  have _u := And.intro hm g2
  unfold nextP
  rw [if_pos (by omega)]
  simp only [Int.toNat_natCast]
  by_cases e : k = 0
  · subst e
    rw [g0, if_pos ⟨right_jmp y hy, by show (17 : Int) ≠ 28; decide⟩]
    rw [wrap64 (x := ((0 : Nat) : Int) + 1) (by omega), show (jmpJ y).Off = y from rfl, wrap64 (by omega)]
    unfold behindP
    rw [if_neg (by show ¬ (17 : Int) = 16; decide), if_pos (by show (17 : Int) ≤ 17 ∧ (17 : Int) ≤ 27; decide), if_neg (by omega)]
    split <;> simp
  · rw [g1 k (by omega) hk, if_pos ⟨right_mov k (by omega), by show (12 : Int) ≠ 28; decide⟩, wrap64 (x := (k : Int) + 1) (by omega)]
    unfold behindP
    rw [if_neg (by show ¬ (12 : Int) = 16; decide), if_neg (by show ¬ ((17 : Int) ≤ 12 ∧ _); omega)]
    exact List.mem_singleton.2 rfl
theorem long_reach : ∀ k, k ≤ m → (stP l k).getD k false = true
  | 0, _ => by
    unfold stP
    rw [getD_set, if_pos ⟨rfl, by rw [List.length_replicate]; omega⟩]
  | k + 1, hk => by
    show (stepP l (stP l k) k).getD (k + 1) false = true
    unfold stepP
    rw [if_pos (long_reach k (by omega))]
    have := foldT_in (nextP l (k : Int)) (stP l k) ((k : Int) + 1) (long_next hL hm hm2 hy g0 g1 g2 k (by omega)) (by rw [stP_len]; omega)
    rwa [show ((k : Int) + 1).toNat = k + 1 by omega] at this
theorem long_check : checkP l = if y ≥ (m : Int) then ⟨101, 0⟩ else ⟨0, 0⟩ := by
  have b : ∀ j, j < m + 1 → j = 0 ∨ (1 ≤ j ∧ j < m) ∨ j = m := fun j hj => by omega
  have a1 : ∀ j, 0 ≤ j → j < 0 + l.length → c1 l j = 0 := fun j _ hj => by
    unfold c1
    rcases b j (by omega) with rfl | ⟨e1, e2⟩ | rfl
    · rw [g0, if_pos (right_jmp y hy)]
    · rw [g1 j e1 e2, if_pos (right_mov j (by omega))]
    · rw [g2]; decide
  have a2 : ∀ j, 1 ≤ j → j < 1 + m → c2 l j = 0 := fun j h1 hj => by
    unfold c2
    rcases b j (by omega) with rfl | ⟨e1, e2⟩ | rfl
    · omega
    · rw [g1 j e1 e2]; rfl
    · rw [g2]; rfl
  have a20 : c2 l 0 = if y ≥ (m : Int) then 101 else 0 := by
    unfold c2
    rw [g0, if_pos (by rfl), show (jmpJ y).Off = y from rfl, if_neg (by omega), hL]
    by_cases h : y ≥ (m : Int)
    · rw [if_pos h, if_pos (by omega)]
    · rw [if_neg h, if_neg (by omega)]
  have a3 : ∀ j, 0 ≤ j → j < 0 + l.length → c3 l j = 0 := fun j _ hj => by
    unfold c3
    by_cases e : j = m
    · rw [e, g2, if_neg (fun hh => hh.2.1 rfl)]
    · rw [if_neg (by omega)]
  have a4 : ∀ j, 0 ≤ j → j < 0 + l.length → c4 l j = 0 := fun j _ hj => by
    unfold c4
    have := stP_mono l j j (long_reach hL hm hm2 hy g0 g1 g2 j (by omega)) 1
    rw [if_pos this]
  unfold checkP
  rw [if_neg (by omega), if_neg (by omega), scan_none _ _ _ a1, scan_none _ _ _ a3, scan_none _ _ _ a4, hL]
  show (scan (c2 l) 0 (m + 1)).getD _ = _
  unfold scan
  rw [a20]
  by_cases h : y ≥ (m : Int)
  · rw [if_pos h, if_pos h]; rfl
  · rw [if_neg h, if_neg h, if_pos rfl, scan_none _ _ _ a2]; rfl
end
theorem formLong_true (p q : Int) : law08FormLong BIG p q = some true := by
  obtain ⟨j, hj, hj'⟩ := pick_q p 6 (by omega)
  have w : IntKind.i64.wrap (4093 + ((j : Nat) : Int)) = ((4093 + j : Nat) : Int) := by rw [wrap64 (by omega)]; omega
  rw [law08FormLong_eq, awake08, obind_of, Bool.not_true, forkB_false]
  have hR : ∀ k, ((List.range k).map movJ).length = k := fun k => by rw [List.length_map, List.length_range]
  refine loop0 (fun n k => law08FormLong_L0 n p q (k : Int) ((List.range k).map movJ)) 1 (4093 + j) _ (fun n k hk => ?_) (fun n => ?_) BIG (by unfold BIG; omega)
  · show law08FormLong_L0 (n + 1) p q (k : Int) ((List.range k).map movJ) = law08FormLong_L0 n p q ((k + 1 : Nat) : Int) ((List.range (k + 1)).map movJ)
    have := hR k
    rw [law08FormLong_L0_eq, hj, obind_of, w, decide_eq_true (by omega), forkB_true, if_pos (by omega), nx hk (by omega), List.range_succ, List.map_append]; rfl
  · show law08FormLong_L0 (n + 1) p q ((4093 + j : Nat) : Int) ((List.range (4093 + j)).map movJ) = some true
    obtain ⟨m, hm⟩ : ∃ m, 4093 + j = m := ⟨_, rfl⟩
    rw [hm] at w ⊢
    have hlen := hR m
    have hlen1 : (((List.range m).map movJ) ++ [exitJ]).length = m + 1 := by rw [List.length_append, hlen]; rfl
    obtain ⟨t, ht, ht'⟩ := pick_q q (((m + 1 : Nat) : Int) + 2) (by omega)
    rw [law08FormLong_L0_eq, hj, obind_of, w, decide_eq_false (by omega), forkB_false, if_pos (by omega)]
    change obind (kitPick BIG q (IntKind.i64.wrap ((((((List.range m).map movJ) ++ [exitJ]).length : Nat) : Int) + 2))) _ = _
    rw [hlen1, wrap64 (by omega), ht, obind_of]
    change (if 0 ≤ (0 : Int) ∧ (0 : Int) < (((((List.range m).map movJ) ++ [exitJ]).length : Nat) : Int) then forkB (decide (((((((List.range m).map movJ) ++ [exitJ]).set 0 (jmpJ (t : Int))).length : Nat) : Int) > 4096)) (obind (law08_fault BIG ((((List.range m).map movJ) ++ [exitJ]).set 0 (jmpJ (t : Int))) 3 0) _) (if 0 ≤ (0 : Int) ∧ (0 : Int) < ((((((List.range m).map movJ) ++ [exitJ]).set 0 (jmpJ (t : Int))).length : Nat) : Int) then forkB (decide (IntKind.i64.wrap ((((((List.range m).map movJ) ++ [exitJ]).set 0 (jmpJ (t : Int))).getD 0 dIns).Off + 1) ≥ ((((((List.range m).map movJ) ++ [exitJ]).set 0 (jmpJ (t : Int))).length : Nat) : Int))) (obind (law08_fault BIG ((((List.range m).map movJ) ++ [exitJ]).set 0 (jmpJ (t : Int))) 101 0) _) (obind (law08_fault BIG ((((List.range m).map movJ) ++ [exitJ]).set 0 (jmpJ (t : Int))) 0 0) _) else none) else none) = _
    rw [if_pos (by omega)]
    have hL : ((((List.range m).map movJ) ++ [exitJ]).set 0 (jmpJ (t : Int))).length = m + 1 := by rw [List.length_set, hlen1]
    have g0 : ((((List.range m).map movJ) ++ [exitJ]).set 0 (jmpJ (t : Int))).getD 0 dIns = jmpJ (t : Int) := by
      rw [List.getD_eq_getElem?_getD, List.getElem?_set, if_pos rfl, if_pos (by omega)]; rfl
    have g1 : ∀ k, 1 ≤ k → k < m → ((((List.range m).map movJ) ++ [exitJ]).set 0 (jmpJ (t : Int))).getD k dIns = movJ k := fun k h1 h2 => by
      rw [List.getD_eq_getElem?_getD, List.getElem?_set, if_neg (by omega), List.getElem?_append_left (by omega), List.getElem?_map, List.getElem?_range h2]; rfl
    have g2 : ((((List.range m).map movJ) ++ [exitJ]).set 0 (jmpJ (t : Int))).getD m dIns = exitJ := by
      rw [List.getD_eq_getElem?_getD, List.getElem?_set, if_neg (by omega), List.getElem?_append_right (by omega), hlen, Nat.sub_self]; rfl
    generalize (((List.range m).map movJ) ++ [exitJ]).set 0 (jmpJ (t : Int)) = l at *
    by_cases hb : m + 1 > 4096
    · rw [decide_eq_true (by omega), forkB_true, fault_p]
      have : checkP l = ⟨3, 0⟩ := by unfold checkP; rw [if_neg (by omega), if_pos (by omega)]
      rw [this]; rfl
    · have hc := long_check hL (by omega) (by omega) (by omega) g0 g1 g2
      rw [decide_eq_false (by omega), forkB_false, if_pos (by omega), g0, show (jmpJ (t : Int)).Off = (t : Int) from rfl, wrap64 (by omega), fault_p, fault_p, hc, hL]
      by_cases h : (t : Int) ≥ (m : Int)
      · rw [decide_eq_true (by omega), forkB_true, if_pos h]; rfl
      · rw [decide_eq_false (by omega), forkB_false, if_neg h]; rfl
end Go.Y
