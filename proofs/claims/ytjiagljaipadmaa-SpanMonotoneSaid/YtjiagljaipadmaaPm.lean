import Derived.Test.YtjiagljaipadmaaProg
import Derived.Test.YtjiagljaipadmaaLm
import Derived.Test.YtjiagljaipadmaaPb
import Derived.Test.YtjiagljaipadmaaMq
namespace Go.V
open Go.RowKit Go.Proofs
theorem lawRight_eq (s : TSpan) : law11_right s = ⟨min s.Lo s.Hi, max s.Lo s.Hi⟩ := by
  show (⟨gMin s.Lo s.Hi, gMax s.Lo s.Hi⟩ : TSpan) = _
  rw [gMin_eq, gMax_eq]
theorem lawRight_ok {s : TSpan} (h : IU64 s.Lo ∧ IU64 s.Hi) : (IU64 (law11_right s).Lo ∧ IU64 (law11_right s).Hi) ∧ (law11_right s).Lo ≤ (law11_right s).Hi := by
  rw [lawRight_eq]
  refine ⟨⟨?_, ?_⟩, ?_⟩
  · show 0 ≤ min s.Lo s.Hi ∧ min s.Lo s.Hi ≤ _; omega
  · show 0 ≤ max s.Lo s.Hi ∧ max s.Lo s.Hi ≤ _; omega
  · show min s.Lo s.Hi ≤ max s.Lo s.Hi; omega
theorem member_ok {s : TSpan} {n : Int} (h : IU64 s.Lo ∧ IU64 s.Hi) (hle : s.Lo ≤ s.Hi) (hn : IU64 n) : Hs s (law11_member s n) := by
  unfold law11_member
  rw [wrapU64_eq, Int.emod_eq_of_lt (a := s.Hi - s.Lo) (by omega) (by omega)]
  split
  · rename_i hc
    have hc : s.Hi - s.Lo = 18446744073709551615 := by simpa using hc
    exact ⟨by omega, by omega⟩
  · rename_i hc
    have hc : s.Hi - s.Lo ≠ 18446744073709551615 := by simpa using hc
    rw [wrapU64_eq (s.Hi - s.Lo + 1), Int.emod_eq_of_lt (a := s.Hi - s.Lo + 1) (by omega) (by omega), Int.tmod_eq_emod_of_nonneg hn.1]
    have h1 := Int.emod_nonneg n (show s.Hi - s.Lo + 1 ≠ 0 by omega)
    have h2 := Int.emod_lt_of_pos n (show 0 < s.Hi - s.Lo + 1 by omega)
    rw [wrapU64_eq, Int.emod_eq_of_lt (by omega) (by omega)]
    exact ⟨by omega, by omega⟩
theorem part_ok {s : TSpan} {m n : Int} (h : IU64 s.Lo ∧ IU64 s.Hi) (hle : s.Lo ≤ s.Hi) (hm : IU64 m) (hn : IU64 n) : (IU64 (law11_part s m n).Lo ∧ IU64 (law11_part s m n).Hi) ∧ (law11_part s m n).Lo ≤ (law11_part s m n).Hi ∧ Wi (law11_part s m n) s := by
  have h1 := member_ok h hle hm
  have h2 := member_ok h hle hn
  have e : law11_part s m n = ⟨min (law11_member s m) (law11_member s n), max (law11_member s m) (law11_member s n)⟩ := by
    show (⟨gMin (law11_member s m) (law11_member s n), gMax (law11_member s m) (law11_member s n)⟩ : TSpan) = _
    rw [gMin_eq, gMax_eq]
  rw [e]
  have a1 := h1.1; have a2 := h1.2; have a3 := h2.1; have a4 := h2.2
  generalize law11_member s m = x at *
  generalize law11_member s n = y at *
  refine ⟨⟨?_, ?_⟩, ?_, ?_, ?_⟩
  · show 0 ≤ min x y ∧ min x y ≤ _; omega
  · show 0 ≤ max x y ∧ max x y ≤ _; omega
  · show min x y ≤ max x y; omega
  · show s.Lo ≤ min x y; omega
  · show max x y ≤ s.Hi; omega
theorem pickE_rng (x n : Int) (h : 1 ≤ n) : 0 ≤ pickE x n ∧ pickE x n < n := by
  unfold pickE
  rw [if_neg (by omega)]
  have h1 := Int.tmod_lt_of_pos x (show 0 < n by omega)
  have h2 : -n < x.tmod n := by have := Int.lt_tmod_of_pos x (show 0 < n by omega); omega
  split <;> omega
theorem pick_ok (n : Int) : (1 ≤ (law11_pick n).1 ∧ (law11_pick n).1 ≤ 13) ∧ 17 ≤ (law11_pick n).2 ∧ (law11_pick n).2 ≤ 27 := by
  have h1 := pickE_rng n 13 (by decide)
  have h2 := pickE_rng n 11 (by decide)
  unfold law11_pick
  simp only [wrapU8_eq]
  omega
theorem law11_SpanMonotone_true (n : Int) (nw yes : Bool) (a b : TSpan) (k m i j : Int) (ha : IU64 a.Lo ∧ IU64 a.Hi) (hb : IU64 b.Lo ∧ IU64 b.Hi) (hk : IU64 k) (hm : IU64 m) (hi' : IU64 i) (hj : IU64 j) : law11_SpanMonotone n nw yes a b k m i j = true := by
  unfold law11_SpanMonotone letF
  rw [law11_awake_true]
  simp only [Bool.not_true, Bool.false_eq_true, if_false]
  obtain ⟨ua, la⟩ := lawRight_ok ha
  obtain ⟨ub, lb⟩ := lawRight_ok hb
  obtain ⟨us, ls, ws⟩ := part_ok ua la hk hm
  obtain ⟨ut, lt, wt⟩ := part_ok ub lb hi' hj
  obtain ⟨ho, hi⟩ := pick_ok n
  generalize law11_right a = A at *
  generalize law11_right b = B at *
  generalize law11_part A k m = S at *
  generalize law11_part B i j = T at *
  generalize (law11_pick n).1 = op at *
  generalize (law11_pick n).2 = ask at *
  have w := Do_mono ho (nw := nw) ua ub la lb us ut ls lt ws wt
  have e : span_Within (span_Do op nw S T) (span_Do op nw A B) = true := by
    simp only [span_Within, Bool.and_eq_true, decide_eq_true_eq]
    exact w
  rw [e]
  simp only [Bool.not_true, Bool.false_eq_true, if_false]
  cases hmay : (span_If ask nw yes S T).2.2 with
  | false => rfl
  | true =>
    obtain ⟨f1, f2, f3⟩ := If_mon hi (nw := nw) (yes := yes) ua ub la lb us ut ls lt ws wt hmay
    simp only [f1, span_Within, Bool.not_true, Bool.false_or, Bool.true_and, Bool.and_eq_true, decide_eq_true_eq]
    exact ⟨f2, f3⟩

theorem spanMonotone_any (a0 : Int) (a1 : Bool) (a2 : Bool) (a3 : TSpan) (a4 : TSpan) (a5 : Int) (a6 : Int) (a7 : Int) (a8 : Int) (w : World) (h_a0 : II64 a0) (h_a3 : IU64 a3.Lo ∧ IU64 a3.Hi) (h_a4 : IU64 a4.Lo ∧ IU64 a4.Hi) (h_a5 : IU64 a5) (h_a6 : IU64 a6) (h_a7 : IU64 a7) (h_a8 : IU64 a8) : Calls Try.prog 4 #[.int .i64 a0, .bool a1, .bool a2, .agg #[.int .u64 a3.Lo, .int .u64 a3.Hi], .agg #[.int .u64 a4.Lo, .int .u64 a4.Hi], .int .u64 a5, .int .u64 a6, .int .u64 a7, .int .u64 a8] w (RetV w (.bool true)) := by
  have h := law11_SpanMonotone_any a0 a1 a2 a3 a4 a5 a6 a7 a8 w h_a0 h_a3 h_a4 h_a5 h_a6 h_a7 h_a8
  rwa [law11_SpanMonotone_true a0 a1 a2 a3 a4 a5 a6 a7 a8 h_a3 h_a4 h_a5 h_a6 h_a7 h_a8] at h
end Go.V
