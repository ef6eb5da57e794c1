import Derived.Test.YtjiagljaipadmaaProg
import Derived.Test.YtjiagljaipadmaaLu
import Derived.Test.YtjiagljaipadmaaPb
import Derived.Test.YtjiagljaipadmaaMq
namespace Go.V
open Go.RowKit Go.Proofs
theorem lawRight_eq (s : TSpan) : law11_right s = ⟨min s.Lo s.Hi, max s.Lo s.Hi⟩ := by
  show (⟨gMin s.Lo s.Hi, gMax s.Lo s.Hi⟩ : TSpan) = _
  rw [gMin_eq, gMax_eq]
theorem lawRight_ok {s : TSpan} (h : IU64 s.Lo ∧ IU64 s.Hi) : (IU64 (law11_right s).Lo ∧ IU64 (law11_right s).Hi) ∧ (law11_right s).Lo ≤ (law11_right s).Hi := by
  rw [lawRight_eq]
  refine ⟨⟨?_, ?_⟩, ?_⟩
  · show 0 ≤ min s.Lo s.Hi ∧ min s.Lo s.Hi ≤ _; omega
  · show 0 ≤ max s.Lo s.Hi ∧ max s.Lo s.Hi ≤ _; omega
  · show min s.Lo s.Hi ≤ max s.Lo s.Hi; omega
theorem member_ok {s : TSpan} {n : Int} (h : IU64 s.Lo ∧ IU64 s.Hi) (hle : s.Lo ≤ s.Hi) (hn : IU64 n) : Hs s (law11_member s n) := by
  unfold law11_member
  rw [wrapU64_eq, Int.emod_eq_of_lt (a := s.Hi - s.Lo) (by omega) (by omega)]
  split
  · rename_i hc
    have hc : s.Hi - s.Lo = 18446744073709551615 := by simpa using hc
    exact ⟨by omega, by omega⟩
  · rename_i hc
    have hc : s.Hi - s.Lo ≠ 18446744073709551615 := by simpa using hc
    rw [wrapU64_eq (s.Hi - s.Lo + 1), Int.emod_eq_of_lt (a := s.Hi - s.Lo + 1) (by omega) (by omega), Int.tmod_eq_emod_of_nonneg hn.1]
    have h1 := Int.emod_nonneg n (show s.Hi - s.Lo + 1 ≠ 0 by omega)
    have h2 := Int.emod_lt_of_pos n (show 0 < s.Hi - s.Lo + 1 by omega)
    rw [wrapU64_eq, Int.emod_eq_of_lt (by omega) (by omega)]
    exact ⟨by omega, by omega⟩
theorem part_ok {s : TSpan} {m n : Int} (h : IU64 s.Lo ∧ IU64 s.Hi) (hle : s.Lo ≤ s.Hi) (hm : IU64 m) (hn : IU64 n) : (IU64 (law11_part s m n).Lo ∧ IU64 (law11_part s m n).Hi) ∧ (law11_part s m n).Lo ≤ (law11_part s m n).Hi ∧ Wi (law11_part s m n) s := by
  have h1 := member_ok h hle hm
  have h2 := member_ok h hle hn
  have e : law11_part s m n = ⟨min (law11_member s m) (law11_member s n), max (law11_member s m) (law11_member s n)⟩ := by
    show (⟨gMin (law11_member s m) (law11_member s n), gMax (law11_member s m) (law11_member s n)⟩ : TSpan) = _
    rw [gMin_eq, gMax_eq]
  rw [e]
  have a1 := h1.1; have a2 := h1.2; have a3 := h2.1; have a4 := h2.2
  generalize law11_member s m = x at *
  generalize law11_member s n = y at *
  refine ⟨⟨?_, ?_⟩, ?_, ?_, ?_⟩
  · show 0 ≤ min x y ∧ min x y ≤ _; omega
  · show 0 ≤ max x y ∧ max x y ≤ _; omega
  · show min x y ≤ max x y; omega
  · show s.Lo ≤ min x y; omega
  · show max x y ≤ s.Hi; omega
theorem pickE_rng (x n : Int) (h : 1 ≤ n) : 0 ≤ pickE x n ∧ pickE x n < n := by
  unfold pickE
  rw [if_neg (by omega)]
  have h1 := Int.tmod_lt_of_pos x (show 0 < n by omega)
  have h2 : -n < x.tmod n := by have := Int.lt_tmod_of_pos x (show 0 < n by omega); omega
  split <;> omega
theorem pick_ok (n : Int) : (1 ≤ (law11_pick n).1 ∧ (law11_pick n).1 ≤ 13) ∧ 17 ≤ (law11_pick n).2 ∧ (law11_pick n).2 ≤ 27 := by
  have h1 := pickE_rng n 13 (by decide)
  have h2 := pickE_rng n 11 (by decide)
  unfold law11_pick
  simp only [wrapU8_eq]
  omega
theorem law11_SpanSound_true (n : Int) (nw : Bool) (a b : TSpan) (k m : Int) (ha : IU64 a.Lo ∧ IU64 a.Hi) (hb : IU64 b.Lo ∧ IU64 b.Hi) (hk : IU64 k) (hm : IU64 m) : law11_SpanSound n nw a b k m = true := by
  unfold law11_SpanSound letF
  rw [law11_awake_true]
  simp only [Bool.not_true, Bool.false_eq_true, if_false]
  obtain ⟨ua, la⟩ := lawRight_ok ha
  obtain ⟨ub, lb⟩ := lawRight_ok hb
  have hp := member_ok ua la hk
  have hq := member_ok ub lb hm
  obtain ⟨ho, hi⟩ := pick_ok n
  generalize law11_right a = A at *
  generalize law11_right b = B at *
  generalize law11_member A k = p at *
  generalize law11_member B m = q at *
  have up : IU64 p := by have := hp.1; have := hp.2; omega
  have uq : IU64 q := by have := hq.1; have := hq.2; omega
  generalize (law11_pick n).1 = op at *
  generalize (law11_pick n).2 = ask at *
  obtain ⟨s1, s2⟩ := Do_sound ho (nw := nw) ua ub la lb
  have s3 := s2 p q up uq hp hq
  rw [if_neg]
  · rw [alu_Is_eq hi up uq]
    obtain ⟨f1, f2, f3, f4, f5, f6, f7⟩ := If_snd hi (nw := nw) (yes := isE nw ask (cutN nw p) (cutN nw q)) ua ub la lb hp hq rfl
    simp only [f1, span_Right, span_Has, span_Within, Bool.and_eq_true, decide_eq_true_eq, beq_self_eq_true, true_and]
    exact ⟨⟨⟨⟨⟨f2, f3⟩, f4⟩, f5⟩, f6⟩, f7⟩
  · have s4 := s1.le; have s5 := s1.hi
    simp only [span_Right, span_Has, Bool.or_eq_true, Bool.and_eq_true, Bool.not_eq_true', decide_eq_true_eq, decide_eq_false_iff_not, beq_iff_eq, Bool.and_eq_false_iff, not_or, not_and]
    refine ⟨⟨by omega, fun e => ?_⟩, fun e => ?_⟩
    · have := s3 e
      have h1 := this.1; have h2 := this.2
      omega
    · subst e
      have : mostI true = 4294967295 := rfl
      omega

theorem spanSound_any (a0 : Int) (a1 : Bool) (a2 : TSpan) (a3 : TSpan) (a4 : Int) (a5 : Int) (w : World) (h_a0 : II64 a0) (h_a2 : IU64 a2.Lo ∧ IU64 a2.Hi) (h_a3 : IU64 a3.Lo ∧ IU64 a3.Hi) (h_a4 : IU64 a4) (h_a5 : IU64 a5) : Calls Try.prog 7 #[.int .i64 a0, .bool a1, .agg #[.int .u64 a2.Lo, .int .u64 a2.Hi], .agg #[.int .u64 a3.Lo, .int .u64 a3.Hi], .int .u64 a4, .int .u64 a5] w (RetV w (.bool true)) := by
  have h := law11_SpanSound_any a0 a1 a2 a3 a4 a5 w h_a0 h_a2 h_a3 h_a4 h_a5
  rwa [law11_SpanSound_true a0 a1 a2 a3 a4 a5 h_a2 h_a3 h_a4 h_a5] at h
end Go.V
