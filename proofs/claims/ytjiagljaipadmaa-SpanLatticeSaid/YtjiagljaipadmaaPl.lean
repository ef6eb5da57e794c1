import Derived.Test.YtjiagljaipadmaaProg
import Derived.Test.YtjiagljaipadmaaLl
import Derived.Test.YtjiagljaipadmaaPb
namespace Go.V
open Go.RowKit Go.Proofs
theorem bneB (x y : Bool) : ((x != y) = true) ↔ ¬ (x = true ↔ y = true) := by cases x <;> cases y <;> simp
theorem right_ok (a : TSpan) : (law11_right a).Lo ≤ (law11_right a).Hi := by
  simp only [law11_right, law11_of, letF_def, gMin_eq, gMax_eq]; omega
theorem meet_eq (a b : TSpan) : span_Meet a b = if max a.Lo b.Lo ≤ min a.Hi b.Hi then (⟨max a.Lo b.Lo, min a.Hi b.Hi⟩, true) else (⟨0, 0⟩, false) := by
  simp only [span_Meet, span_Right, letF_def, gMin_eq, gMax_eq]
  by_cases h : max a.Lo b.Lo ≤ min a.Hi b.Hi
  · simp only [h, decide_true, Bool.not_true, Bool.false_eq_true, if_false, if_true]
  · simp only [h, decide_false, Bool.not_false, if_true, if_false]
theorem law11_SpanLattice_true (a b c : TSpan) (n : Int) : law11_SpanLattice a b c n = true := by
  have hA := right_ok a
  have hB := right_ok b
  have hC := right_ok c
  simp only [law11_SpanLattice, letF_def, law11_awake_true, meet_eq]
  generalize law11_right a = A at *
  generalize law11_right b = B at *
  generalize law11_right c = C at *
  simp only [Bool.not_true, Bool.false_eq_true, if_false, span_Join, span_Within, span_Has, gMin_eq, gMax_eq]
  rw [if_neg, if_neg]
  · simp only [Bool.and_eq_true, beq_iff_eq]; omega
  · by_cases hm : max A.Lo B.Lo ≤ min A.Hi B.Hi
    · simp only [hm, if_true, Bool.or_eq_true, Bool.and_eq_true, decide_eq_true_eq, bneB, true_and]; omega
    · simp only [hm, if_false, Bool.or_eq_true, Bool.and_eq_true, decide_eq_true_eq, bneB, Bool.false_eq_true, false_and, iff_false, Decidable.not_not]
      rcases Int.le_total A.Lo B.Lo with h1 | h1 <;> rcases Int.le_total A.Hi B.Hi with h2 | h2 <;> simp only [Int.max_eq_right, Int.max_eq_left, Int.min_eq_right, Int.min_eq_left, h1, h2] at hm <;> omega
  · simp only [Bool.or_eq_true, Bool.and_eq_true, Bool.not_eq_true', Bool.and_eq_false_iff, decide_eq_true_eq, decide_eq_false_iff_not]; omega

theorem spanLattice_any (a0 : TSpan) (a1 : TSpan) (a2 : TSpan) (a3 : Int) (w : World) (h_a0 : IU64 a0.Lo ∧ IU64 a0.Hi) (h_a1 : IU64 a1.Lo ∧ IU64 a1.Hi) (h_a2 : IU64 a2.Lo ∧ IU64 a2.Hi) (h_a3 : IU64 a3) : Calls Try.prog 6 #[.agg #[.int .u64 a0.Lo, .int .u64 a0.Hi], .agg #[.int .u64 a1.Lo, .int .u64 a1.Hi], .agg #[.int .u64 a2.Lo, .int .u64 a2.Hi], .int .u64 a3] w (RetV w (.bool true)) := by
  have h := law11_SpanLattice_any a0 a1 a2 a3 w h_a0 h_a1 h_a2 h_a3
  rwa [law11_SpanLattice_true a0 a1 a2 a3] at h
end Go.V
