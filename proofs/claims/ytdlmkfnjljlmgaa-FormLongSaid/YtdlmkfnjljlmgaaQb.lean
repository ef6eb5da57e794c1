/- The shape is checked: the program and the document tell the same. -/
import Derived.Test.YtdlmkfnjljlmgaaQa
namespace Go.Y
open Go.RowKit Go.V Go.X Go.Proofs

theorem when_p (b : Bool) (x : Int) : shape_when BIG b x = some (if b = true then x else 0) := by
  rw [shape_when_eq]; cases b <;> rfl
theorem p1 (l : List Ins) (k : Nat) (hk : k < l.length) : shapeCheck_1_g1 BIG (k : Int) l = some (((l, ()), ()), (c1 l k, ())) := by
  rw [shapeCheck_1_g1_eq, if_pos (by omega), right_p, obind_of, when_p, obind_of, Int.toNat_natCast]
  unfold c1
  cases rightP (l.getD k dIns) <;> rfl
theorem p2 (l : List Ins) (k : Nat) (hk : k < l.length) (hl : l.length ≤ 4096) (h1 : c1 l k = 0) : shapeCheck_2_g1 BIG (k : Int) l = some (((l, ()), ()), (c2 l k, ())) := by
  have ro := right_off _ (c1_right h1)
  rw [shapeCheck_2_g1_eq, if_pos (by omega), if_pos (by omega), jumps_p, obind_of, Int.toNat_natCast, wrap64 (x := (k : Int) + 1) (by omega), wrap64 (by omega), when_p]
  unfold c2 jumpB
  generalize l.getD k dIns = i at *
  cases decide (16 ≤ i.Op) && decide (i.Op ≤ 27) with
  | false => rfl
  | true =>
    rw [Bool.not_true, forkB_false, if_pos rfl]
    by_cases h : i.Off < 0
    · rw [decide_eq_true (by omega), forkB_true, if_pos h]
    · rw [decide_eq_false (by omega), forkB_false, if_neg h, obind_of]
      by_cases h' : (k : Int) + 1 + i.Off ≥ (l.length : Int)
      · rw [decide_eq_true h', if_pos h']; rfl
      · rw [decide_eq_false h', if_neg h']; rfl
theorem p3 (l : List Ins) (k : Nat) (hk : k < l.length) (hl : l.length ≤ 4096) : shapeCheck_3_g1 BIG (k : Int) l = some (((l, ()), ()), (c3 l k, ())) := by
  rw [shapeCheck_3_g1_eq, wrap64 (by omega), forkB_if]
  unfold c3
  simp only [Int.toNat_natCast]
  by_cases h : k + 1 = l.length
  · rw [if_pos (by simp; omega), if_pos (by omega), forkB_if]
    by_cases h28 : (l.getD k dIns).Op = 28
    · rw [if_neg (by simpa using h28), if_neg (fun h' => h'.2.1 h28), when_p, obind_of]; rfl
    · rw [if_pos (by simpa using h28), if_pos (by omega), when_p, obind_of]
      by_cases h16 : (l.getD k dIns).Op = 16
      · rw [if_neg (c := k + 1 = l.length ∧ (l.getD k dIns).Op ≠ 28 ∧ (l.getD k dIns).Op ≠ 16) (fun h' => h'.2.2 h16), h16]; rfl
      · rw [if_pos (c := k + 1 = l.length ∧ (l.getD k dIns).Op ≠ 28 ∧ (l.getD k dIns).Op ≠ 16) ⟨h, h28, h16⟩, if_pos (by simpa using h16)]
  · rw [if_neg (by simp; omega), if_neg (fun h' => h h'.1), when_p, obind_of]; rfl
theorem partAt {y xs : List Int} {o m : Nat} (h : Part y o m xs) (j : Nat) (hj : j < m) : y.getD (o + j) 0 = xs.getD j 0 ∧ xs.length = m := by
  obtain ⟨h1, h2⟩ := h
  subst h2
  refine ⟨?_, by rw [List.length_take, List.length_drop]; omega⟩
  rw [List.getD_eq_getElem?_getD, List.getD_eq_getElem?_getD, List.getElem?_take, if_pos hj, List.getElem?_drop]
theorem getMem (xs : List Int) (j : Nat) (hj : j < xs.length) : xs.getD j 0 ∈ xs := by
  rw [List.getD_eq_getElem?_getD, List.getElem?_eq_getElem hj]; exact List.getElem_mem hj
theorem p4 {l : List Ins} (hl : l.length ≤ 4096) (hf : Fwd l) (k : Nat) (hk : k < l.length) : shapeCheck_4_g1 BIG (k : Int) l (stP l k) = some (((l, ()), ((), ()), stP l (k + 1), ()), (c4 l k, ())) := by
  obtain ⟨y, o, m, e, hp⟩ := next_g1 l (k : Int)
  rw [shapeCheck_4_g1_eq, e, obind_of]
  dsimp only
  have hm : (nextP l (k : Int)).length = m := by
    rw [← hp.2, List.length_take, List.length_drop]; have := hp.1; omega
  have hlen := stP_len l k
  have hn := nextP_len l (k : Int)
  have hS : ∀ j, (if (stP l k).getD k false = true then foldT ((nextP l (k : Int)).take j) (stP l k) else stP l k).length = l.length := by
    intro j; split
    · rw [foldT_len, hlen]
    · exact hlen
  have hat : ∀ j, (if (stP l k).getD k false = true then foldT ((nextP l (k : Int)).take j) (stP l k) else stP l k).getD k false = (stP l k).getD k false := by
    intro j; split
    · refine foldT_out _ _ _ fun x hx => ?_
      have := hf k hk x (List.mem_of_mem_take hx); omega
    · rfl
  have e0 : (if (stP l k).getD k false = true then foldT ((nextP l (k : Int)).take 0) (stP l k) else stP l k) = stP l k := by
    rw [List.take_zero]; split <;> rfl
  have Q := loop0 (fun n j => shapeCheck_4_g1_L0 n (k : Int) o m ((m : Nat) : Int) ((j : Nat) : Int) l (if (stP l k).getD k false = true then foldT ((nextP l (k : Int)).take j) (stP l k) else stP l k) y) 2 m (some (((l, ()), ((), ()), stP l (k + 1), ()), (c4 l k, ()))) (fun n j hj => ?_) (fun n => ?_) BIG (by unfold BIG; omega)
  · rw [e0] at Q
    exact Q
  · show shapeCheck_4_g1_L0 (n + 1 + 1) (k : Int) o m ((m : Nat) : Int) ((j : Nat) : Int) l _ y = shapeCheck_4_g1_L0 n (k : Int) o m ((m : Nat) : Int) ((j + 1 : Nat) : Int) l _ y
    have hx := (partAt hp j hj).1
    have hb := hf k hk _ (getMem (nextP l (k : Int)) j (by omega))
    rw [shapeCheck_4_g1_L0_eq, decide_eq_true (by omega), forkB_true, if_pos (by omega), if_pos (by have := hp.1; omega), Int.toNat_natCast, hx]
    have e1 := hS j
    have e2 := hat j
    have e3 := foldT_take (nextP l (k : Int)) (stP l k) j (by omega)
    generalize (nextP l (k : Int)).getD j 0 = x at *
    by_cases ht : (stP l k).getD k false = true
    · simp only [if_pos ht] at e1 e2 ⊢
      rw [e3]
      generalize foldT ((nextP l (k : Int)).take j) (stP l k) = r at *
      have q1 : 0 ≤ x ∧ x < ((r.length : Nat) : Int) := by omega
      have q2 : 0 ≤ (k : Int) ∧ (k : Int) < ((r.length : Nat) : Int) := by omega
      simp only [if_pos q1, if_pos q2, shapeCheck_4_g1_J1_eq, nx (len := m) hj (by omega), Int.toNat_natCast, e2, ht, forkB_if, ite_self]
    · simp only [if_neg ht] at e1 e2 ⊢
      generalize hr : stP l k = r at *
      have q1 : 0 ≤ x ∧ x < ((r.length : Nat) : Int) := by omega
      have q2 : 0 ≤ (k : Int) ∧ (k : Int) < ((r.length : Nat) : Int) := by omega
      simp only [if_pos q1, if_pos q2, shapeCheck_4_g1_J1_eq, nx (len := m) hj (by omega), Int.toNat_natCast, forkB_if]
      by_cases hz : r.getD x.toNat false = true
      · rw [if_pos hz, ← hz, set_self]
      · rw [if_neg hz, Bool.eq_false_iff.2 ht, ← Bool.eq_false_iff.2 hz, set_self]
  · show shapeCheck_4_g1_L0 (n + 1) (k : Int) o m ((m : Nat) : Int) ((m : Nat) : Int) l _ y = _
    have e1 := hS m
    have e2 : (if (stP l k).getD k false = true then foldT ((nextP l (k : Int)).take m) (stP l k) else stP l k) = stP l (k + 1) := by
      rw [List.take_of_length_le (by omega)]; rfl
    rw [e2] at e1 ⊢
    rw [shapeCheck_4_g1_L0_eq, decide_eq_false (by omega), forkB_false, if_pos (by omega), when_p, obind_of, Int.toNat_natCast]
    unfold c4
    cases (stP l (k + 1)).getD k false <;> rfl
theorem check_p (l : List Ins) : shapeCheck BIG l = some (checkP l) := by
  rw [shapeCheck_eq]
  unfold checkP
  by_cases h0 : l.length = 0
  · rw [if_pos h0, h0]; rfl
  rw [if_neg h0, show (((l.length : Nat) : Int) == 0) = false from beq_eq_false_iff_ne.2 (by omega), forkB_false]
  by_cases hl : l.length > 4096
  · rw [if_pos hl, decide_eq_true (by omega), forkB_true]
  rw [if_neg hl, decide_eq_false (by omega), forkB_false, if_pos (by omega), if_pos (by rw [List.length_replicate]; omega), Int.toNat_natCast]
  have key : ∃ Y, shape_first_g1 BIG ((l.length : Nat) : Int) l (stP l 0) = some Y ∧ Y.2.1 = (scan (c1 l) 0 l.length).getD ((scan (c2 l) 0 l.length).getD ((scan (c3 l) 0 l.length).getD ((scan (c4 l) 0 l.length).getD ⟨0, 0⟩))) := by
    rw [shape_first_g1_eq]
    refine scanE (fun n k => shape_first_g1_L1 n ((l.length : Nat) : Int) ((l.length : Nat) : Int) ((k : Nat) : Int) l (stP l 0) 0 0) (fun Y => Y.2.1) (c1 l) 1 l.length 50000 _ (fun n k hk hn => ?_) (fun z1 n hn => ?_) l.length 0 _ (by omega) (by omega) (by omega)
    · obtain ⟨n, rfl⟩ : ∃ j, n = j + 1 := ⟨n - 1, by omega⟩
      show _ ∨ _ ∧ ∃ Y, shape_first_g1_L1 (n + 2) _ _ _ _ _ _ _ = _ ∧ _
      by_cases hc : c1 l k = 0
      · refine .inl ⟨hc, ?_⟩
        show shape_first_g1_L1 (n + 2) _ _ _ _ _ _ _ = shape_first_g1_L1 (n + 1) _ _ _ _ _ _ _
        rw [shape_first_g1_L1_eq, decide_eq_true (by omega), forkB_true, p1 l k hk, obind_of, hc, nx hk (by omega)]; rfl
      · refine .inr ⟨hc, ?_⟩
        rw [shape_first_g1_L1_eq, decide_eq_true (by omega), forkB_true, p1 l k hk, obind_of]
        dsimp only
        rw [show (c1 l k != 0) = true by simpa using hc, forkB_true]
        exact ⟨_, rfl, rfl⟩
    obtain ⟨n, rfl⟩ : ∃ j, n = j + 2 := ⟨n - 2, by omega⟩
    show ∃ Y, shape_first_g1_L1 (n + 2) _ _ _ _ _ _ _ = _ ∧ _
    rw [shape_first_g1_L1_eq, decide_eq_false (by omega), forkB_false]
    refine scanE (fun n k => shape_first_g1_L1a n ((l.length : Nat) : Int) ((l.length : Nat) : Int) ((k : Nat) : Int) l (stP l 0) 0 0) (fun Y => Y.2.1) (c2 l) 1 l.length 40000 _ (fun n k hk hn => ?_) (fun z2 n hn => ?_) l.length 0 _ (by omega) (by omega) (by omega)
    · obtain ⟨n, rfl⟩ : ∃ j, n = j + 1 := ⟨n - 1, by omega⟩
      show _ ∨ _ ∧ ∃ Y, shape_first_g1_L1a (n + 2) _ _ _ _ _ _ _ = _ ∧ _
      by_cases hc : c2 l k = 0
      · refine .inl ⟨hc, ?_⟩
        show shape_first_g1_L1a (n + 2) _ _ _ _ _ _ _ = shape_first_g1_L1a (n + 1) _ _ _ _ _ _ _
        rw [shape_first_g1_L1a_eq, decide_eq_true (by omega), forkB_true, p2 l k hk (by omega) (z1 k hk), obind_of, hc, nx hk (by omega)]; rfl
      · refine .inr ⟨hc, ?_⟩
        rw [shape_first_g1_L1a_eq, decide_eq_true (by omega), forkB_true, p2 l k hk (by omega) (z1 k hk), obind_of]
        dsimp only
        rw [show (c2 l k != 0) = true by simpa using hc, forkB_true]
        exact ⟨_, rfl, rfl⟩
    obtain ⟨n, rfl⟩ : ∃ j, n = j + 2 := ⟨n - 2, by omega⟩
    show ∃ Y, shape_first_g1_L1a (n + 2) _ _ _ _ _ _ _ = _ ∧ _
    rw [shape_first_g1_L1a_eq, decide_eq_false (by omega), forkB_false]
    refine scanE (fun n k => shape_first_g1_L1b n ((l.length : Nat) : Int) ((l.length : Nat) : Int) ((k : Nat) : Int) l (stP l 0) 0 0) (fun Y => Y.2.1) (c3 l) 1 l.length 30000 _ (fun n k hk hn => ?_) (fun z3 n hn => ?_) l.length 0 _ (by omega) (by omega) (by omega)
    · obtain ⟨n, rfl⟩ : ∃ j, n = j + 1 := ⟨n - 1, by omega⟩
      show _ ∨ _ ∧ ∃ Y, shape_first_g1_L1b (n + 2) _ _ _ _ _ _ _ = _ ∧ _
      by_cases hc : c3 l k = 0
      · refine .inl ⟨hc, ?_⟩
        show shape_first_g1_L1b (n + 2) _ _ _ _ _ _ _ = shape_first_g1_L1b (n + 1) _ _ _ _ _ _ _
        rw [shape_first_g1_L1b_eq, decide_eq_true (by omega), forkB_true, p3 l k hk (by omega), obind_of, hc, nx hk (by omega)]; rfl
      · refine .inr ⟨hc, ?_⟩
        rw [shape_first_g1_L1b_eq, decide_eq_true (by omega), forkB_true, p3 l k hk (by omega), obind_of]
        dsimp only
        rw [show (c3 l k != 0) = true by simpa using hc, forkB_true]
        exact ⟨_, rfl, rfl⟩
    obtain ⟨n, rfl⟩ : ∃ j, n = j + 2 := ⟨n - 2, by omega⟩
    show ∃ Y, shape_first_g1_L1b (n + 2) _ _ _ _ _ _ _ = _ ∧ _
    rw [shape_first_g1_L1b_eq, decide_eq_false (by omega), forkB_false]
    have hf := fwd_of (by omega) z1 z2 z3
    refine scanE (fun n k => shape_first_g1_L1c n ((l.length : Nat) : Int) ((l.length : Nat) : Int) ((k : Nat) : Int) l (stP l k) 0 0) (fun Y => Y.2.1) (c4 l) 1 l.length 20000 _ (fun n k hk hn => ?_) (fun z4 n hn => ?_) l.length 0 _ (by omega) (by omega) (by omega)
    · obtain ⟨n, rfl⟩ : ∃ j, n = j + 1 := ⟨n - 1, by omega⟩
      show _ ∨ _ ∧ ∃ Y, shape_first_g1_L1c (n + 2) _ _ _ _ _ _ _ = _ ∧ _
      by_cases hc : c4 l k = 0
      · refine .inl ⟨hc, ?_⟩
        show shape_first_g1_L1c (n + 2) _ _ _ _ _ _ _ = shape_first_g1_L1c (n + 1) _ _ _ _ _ _ _
        rw [shape_first_g1_L1c_eq, decide_eq_true (by omega), forkB_true, p4 (by omega) hf k hk, obind_of, hc, nx hk (by omega)]; rfl
      · refine .inr ⟨hc, ?_⟩
        rw [shape_first_g1_L1c_eq, decide_eq_true (by omega), forkB_true, p4 (by omega) hf k hk, obind_of]
        dsimp only
        rw [show (c4 l k != 0) = true by simpa using hc, forkB_true]
        exact ⟨_, rfl, rfl⟩
    obtain ⟨n, rfl⟩ : ∃ j, n = j + 2 := ⟨n - 2, by omega⟩
    show ∃ Y, shape_first_g1_L1c (n + 2) _ _ _ _ _ _ _ = _ ∧ _
    rw [shape_first_g1_L1c_eq, decide_eq_false (by omega), forkB_false]
    exact ⟨_, rfl, rfl⟩
  obtain ⟨Y, e1, e2⟩ := key
  have e1 : shape_first_g1 BIG ((l.length : Nat) : Int) l ((List.replicate l.length false).set 0 true) = some Y := e1
  rw [e1, obind_of, e2]
end Go.Y
