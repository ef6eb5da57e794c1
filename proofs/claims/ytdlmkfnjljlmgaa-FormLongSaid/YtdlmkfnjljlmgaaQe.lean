/- A shape cut short, or made longer: the laws FormCut, FormLong. -/
import Derived.Test.YtdlmkfnjljlmgaaQd
namespace Go.Y
open Go.RowKit Go.V Go.X Go.Proofs

def exitJ : Ins := ⟨28, false, 0, 0, false, 0, 0, 0⟩
theorem getI_app (l r : List Ins) (k : Nat) (hk : k < l.length) : (l ++ r).getD k dIns = l.getD k dIns := by
  rw [List.getD_eq_getElem?_getD, List.getD_eq_getElem?_getD, List.getElem?_append_left hk]
theorem getI_end (l : List Ins) (i : Ins) : (l ++ [i]).getD l.length dIns = i := by
  rw [List.getD_eq_getElem?_getD, List.getElem?_append_right (by omega), Nat.sub_self]; rfl
theorem next_app (l r : List Ins) (k : Nat) (hk : k < l.length) : nextP (l ++ r) (k : Int) = nextP l (k : Int) := by
  unfold nextP
  have q1 : 0 ≤ (k : Int) ∧ (k : Int) < (((l ++ r).length : Nat) : Int) := by rw [List.length_append]; omega
  have q2 : 0 ≤ (k : Int) ∧ (k : Int) < ((l.length : Nat) : Int) := by omega
  simp only [if_pos q1, if_pos q2, Int.toNat_natCast, getI_app l r k hk]
theorem getB_app (a b : List Bool) (k : Nat) (hk : k < a.length) : (a ++ b).getD k false = a.getD k false := by
  rw [List.getD_eq_getElem?_getD, List.getD_eq_getElem?_getD, List.getElem?_append_left hk]
theorem foldT_app : ∀ (xs : List Int) (a b : List Bool), (∀ x ∈ xs, x.toNat < a.length) → foldT xs (a ++ b) = foldT xs a ++ b
  | [], _, _, _ => rfl
  | x :: xs, a, b, h => by
    show foldT xs ((a ++ b).set x.toNat true) = foldT xs (a.set x.toNat true) ++ b
    rw [List.set_append_left _ _ (h x List.mem_cons_self)]
    exact foldT_app xs _ b fun y hy => by rw [List.length_set]; exact h y (List.mem_cons_of_mem _ hy)
theorem stP_app {l : List Ins} (h : Okay l) (i : Ins) : ∀ k, k ≤ l.length → stP (l ++ [i]) k = stP l k ++ [false]
  | 0, _ => by
    show (List.replicate (l ++ [i]).length false).set 0 true = (List.replicate l.length false).set 0 true ++ [false]
    rw [List.length_append, show [i].length = 1 from rfl, List.replicate_succ', List.set_append_left _ _ (by rw [List.length_replicate]; exact h.pos)]
  | k + 1, hk => by
    show stepP (l ++ [i]) (stP (l ++ [i]) k) k = stepP l (stP l k) k ++ [false]
    unfold stepP
    rw [stP_app h i k (by omega), getB_app _ _ _ (by rw [stP_len]; omega), next_app l [i] k (by omega)]
    split
    · exact foldT_app _ _ _ fun x hx => by have := h.fwd k (by omega) x hx; rw [stP_len]; omega
    · rfl
theorem cut_exit {l : List Ins} (h : Okay l) (hl : l.length ≤ 300) : checkP (l ++ [exitJ]) = ⟨103, ((l.length : Nat) : Int)⟩ := by
  have hL : (l ++ [exitJ]).length = l.length + 1 := by rw [List.length_append]; rfl
  have g1 := fun k hk => getI_app l [exitJ] k hk
  have g2 := getI_end l exitJ
  have a1 : ∀ j, 0 ≤ j → j < 0 + (l ++ [exitJ]).length → c1 (l ++ [exitJ]) j = 0 := fun j _ hj => by
    unfold c1
    by_cases e : j = l.length
    · rw [e, g2]; decide
    · rw [g1 j (by omega)]; exact h.z1 j (by omega)
  have a2 : ∀ j, 0 ≤ j → j < 0 + (l ++ [exitJ]).length → c2 (l ++ [exitJ]) j = 0 := fun j _ hj => by
    by_cases e : j = l.length
    · unfold c2; rw [e, g2]; rfl
    · have := h.z2 j (by omega)
      unfold c2 at this ⊢
      rw [g1 j (by omega), hL]
      generalize l.getD j dIns = i at *
      split
      · rename_i hj
        rw [if_pos hj] at this
        split
        · rename_i ho; rw [if_pos ho] at this; cases this
        · rename_i ho
          rw [if_neg ho] at this
          split
          · rename_i ht
            rw [if_pos (by omega)] at this; cases this
          · rfl
      · rfl
  have a3 : ∀ j, 0 ≤ j → j < 0 + (l ++ [exitJ]).length → c3 (l ++ [exitJ]) j = 0 := fun j _ hj => by
    unfold c3
    by_cases e : j = l.length
    · rw [e, g2, if_neg (fun hh => hh.2.1 rfl)]
    · rw [if_neg (by omega)]
  have a4 : ∀ j, 0 ≤ j → j < 0 + l.length → c4 (l ++ [exitJ]) j = 0 := fun j _ hj => by
    have := h.z4 j (by omega)
    unfold c4 at this ⊢
    rw [stP_app h exitJ (j + 1) (by omega), getB_app _ _ _ (by rw [stP_len]; omega)]
    exact this
  have a5 : c4 (l ++ [exitJ]) l.length = 103 := by
    have e1 : (stP l l.length ++ [false]).getD l.length false = false := by
      rw [List.getD_eq_getElem?_getD, List.getElem?_append_right (by rw [stP_len]; omega), stP_len, Nat.sub_self]; rfl
    have e2 : stP (l ++ [exitJ]) (l.length + 1) = stP l l.length ++ [false] := by
      show stepP (l ++ [exitJ]) (stP (l ++ [exitJ]) l.length) l.length = _
      unfold stepP
      rw [stP_app h exitJ l.length (by omega), e1]; rfl
    unfold c4
    rw [e2, e1]; rfl
  unfold checkP
  rw [if_neg (by omega), if_neg (by omega), scan_none _ _ _ a1, scan_none _ _ _ a2, scan_none _ _ _ a3, hL, scan_last (c4 (l ++ [exitJ])) l.length 0 a4, Nat.zero_add, a5]
  rfl
theorem cut_take {l : List Ins} (h : Okay l) (a : Nat) (h1 : 1 ≤ a) (h2 : a < l.length) :
    ((checkP (l.take a)).Err = 0 ∧ ((l.getD (a - 1) dIns).Op = 28 ∨ (l.getD (a - 1) dIns).Op = 16)) ∨
    (((checkP (l.take a)).Err = 101 ∨ (checkP (l.take a)).Err = 102 ∨ (checkP (l.take a)).Err = 103) ∧ (checkP (l.take a)).At < (a : Int)) := by
  have hlen := h.len
  have hL : (l.take a).length = a := by rw [List.length_take]; omega
  have g : ∀ k, k < a → (l.take a).getD k dIns = l.getD k dIns := fun k hk => by
    rw [List.getD_eq_getElem?_getD, List.getD_eq_getElem?_getD, List.getElem?_take, if_pos hk]
  have s1 : scan (c1 (l.take a)) 0 (l.take a).length = none := scan_none _ _ _ fun j _ hj => by
    unfold c1
    rw [g j (by omega)]; exact h.z1 j (by omega)
  unfold checkP
  rw [if_neg (by omega), if_neg (by omega), s1]
  show ((((scan (c2 (l.take a)) 0 (l.take a).length).getD _).Err = 0 ∧ _) ∨ _)
  cases e2 : scan (c2 (l.take a)) 0 (l.take a).length with
  | some F =>
    obtain ⟨j, _, hj, hc, rfl⟩ := scan_some _ _ _ _ e2
    have : c2 (l.take a) j = 101 := by
      have z := h.z2 j (by omega)
      unfold c2 at hc z ⊢
      rw [g j (by omega)] at hc ⊢
      generalize l.getD j dIns = i at *
      split
      · rename_i hjb
        rw [if_pos hjb] at hc z
        split
        · rename_i ho; rw [if_pos ho] at z; cases z
        · rename_i ho
          rw [if_neg ho] at hc
          split
          · rfl
          · rename_i ht; rw [if_neg ht] at hc; exact absurd rfl hc
      · rename_i hjb; rw [if_neg hjb] at hc; exact absurd rfl hc
    exact .inr ⟨.inl this, by show (j : Int) < a; omega⟩
  | none =>
    show ((((scan (c3 (l.take a)) 0 (l.take a).length).getD _).Err = 0 ∧ _) ∨ _)
    cases e3 : scan (c3 (l.take a)) 0 (l.take a).length with
    | some F =>
      obtain ⟨j, _, hj, hc, rfl⟩ := scan_some _ _ _ _ e3
      have : c3 (l.take a) j = 102 := by
        unfold c3 at hc ⊢
        split
        · rfl
        · rename_i hh; rw [if_neg hh] at hc; exact absurd rfl hc
      exact .inr ⟨.inr (.inl this), by show (j : Int) < a; omega⟩
    | none =>
      show ((((scan (c4 (l.take a)) 0 (l.take a).length).getD _).Err = 0 ∧ _) ∨ _)
      cases e4 : scan (c4 (l.take a)) 0 (l.take a).length with
      | some F =>
        obtain ⟨j, _, hj, hc, rfl⟩ := scan_some _ _ _ _ e4
        have : c4 (l.take a) j = 103 := by
          unfold c4 at hc ⊢
          split
          · rename_i hh; rw [if_pos hh] at hc; exact absurd rfl hc
          · rfl
        exact .inr ⟨.inr (.inr this), by show (j : Int) < a; omega⟩
      | none =>
        refine .inl ⟨rfl, ?_⟩
        have z := scan_zero _ _ _ e3 (a - 1) (by omega) (by omega)
        unfold c3 at z
        rw [g (a - 1) (by omega), hL] at z
        generalize l.getD (a - 1) dIns = i at *
        by_cases h28 : i.Op = 28
        · exact .inl h28
        · by_cases h16 : i.Op = 16
          · exact .inr h16
          · rw [if_pos ⟨by omega, h28, h16⟩] at z; cases z
theorem formCut_true (l : List Ins) (a : Int) : law08FormCut BIG l a = some true := by
  rw [law08FormCut_eq, awake08, obind_of, Bool.not_true, forkB_false]
  by_cases hl : ((l.length : Nat) : Int) > 300
  · rw [decide_eq_true hl, forkB_true, law08FormCut_J0_eq, forkB_true]
  rw [decide_eq_false hl, forkB_false, check_p, obind_of, law08FormCut_J0_eq]
  by_cases he : (checkP l).Err = 0
  · have hO := okay_of he
    have hlen := hO.len
    rw [show ((checkP l).Err != 0) = false by simpa using he, forkB_false, if_pos (by omega), if_pos (by show (l.length + 1) * 56 ≤ _; omega)]
    show obind (shapeCheck BIG (l ++ [exitJ])) _ = _
    rw [check_p, obind_of, cut_exit hO (by omega)]
    simp only [beq_self_eq_true, Bool.and_self, Bool.not_true, forkB_false]
    by_cases h1 : a < 1
    · rw [decide_eq_true h1, forkB_true, law08FormCut_J1_eq, forkB_true]
    rw [decide_eq_false h1, forkB_false, law08FormCut_J1_eq]
    by_cases h2 : a ≥ ((l.length : Nat) : Int)
    · rw [decide_eq_true h2, forkB_true]
    rw [decide_eq_false h2, forkB_false, if_pos (by omega)]
    obtain ⟨k, rfl⟩ : ∃ k : Nat, a = (k : Int) := ⟨a.toNat, by omega⟩
    rw [show List.take (((k : Nat) : Int).toNat - 0) (List.drop 0 l) = l.take k by rw [List.drop_zero]; congr 1, check_p, obind_of, wrap64 (by omega)]
    have q : 0 ≤ ((k : Nat) : Int) - 1 ∧ ((k : Nat) : Int) - 1 < ((l.length : Nat) : Int) := by omega
    simp only [if_pos q, show (((k : Nat) : Int) - 1).toNat = k - 1 by omega, law08FormCut_J2_eq, forkB_if]
    rcases cut_take hO k (by omega) (by omega) with ⟨e1, e2⟩ | ⟨e1, e2⟩
    · rw [e1]
      rcases e2 with e2 | e2 <;> rw [e2] <;> rfl
    · rw [decide_eq_true e2]
      rcases e1 with e1 | e1 | e1 <;> rw [e1] <;> rfl
  · rw [show ((checkP l).Err != 0) = true by simpa using he, forkB_true]
end Go.Y
