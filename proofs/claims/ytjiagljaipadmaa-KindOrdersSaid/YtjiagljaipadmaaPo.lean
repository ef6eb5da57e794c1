import Derived.Test.YtjiagljaipadmaaProg
import Derived.Test.YtjiagljaipadmaaLo
import Derived.Test.YtjiagljaipadmaaPa
namespace Go.V
open Go.RowKit Go.Proofs
theorem eqK {a b : TKnown} (h : ((a.Kind == b.Kind) && ((a.In.Lo == b.In.Lo) && (a.In.Hi == b.In.Hi))) = true) : a = b := by
  obtain ⟨ak, al, ah⟩ := a; obtain ⟨bk, bl, bh⟩ := b
  simp at h ⊢; exact h
theorem kw1 (a : TKnown) : kind_Within a a = kind_Right a := by
  simp only [kind_Within, kind_Right, kind_number, span_Within, span_Right, span_Of, letF_def]
  grind
theorem kw2 (a b : TKnown) (k n len : Int) (h : kind_Within a b = true) (h2 : kind_Holds a k n len = true) (h0 : 0 ≤ len) (h1 : len ≤ 65535) : kind_Holds b k n len = true := by
  have hw : IntKind.u64.wrap len = len := IntWalk.u64_in _ (by omega)
  simp only [kind_Within, kind_Holds, kind_Right, kind_number, span_Within, span_Has, span_Right, span_Of, letF_def, hw] at h h2 ⊢
  grind
theorem kw3 (a b c : TKnown) (h : kind_Within a b = true) (h2 : kind_Within b c = true) : kind_Within a c = true := by
  simp only [kind_Within, kind_Holds, kind_Right, kind_number, span_Within, span_Has, span_Right, span_Of, letF_def] at h h2 ⊢
  grind (splits := 60)


theorem kj1 (a b : TKnown) (h : kind_Right a = false ∨ kind_Right b = false) : kind_Join a b = ⟨0, ⟨0, 0⟩⟩ := by
  simp only [kind_Join, letF_def]
  rcases h with h | h <;> simp [h]
theorem kjR (a b : TKnown) (ha : kind_Right a = true) (hb : kind_Right b = true) : kind_Right (kind_Join a b) = true := by
  simp only [kind_Right, kind_number, kind_Join, span_Join, span_Right, span_Of, letF_def, gMin_eq, gMax_eq] at *
  grind (splits := 60)
theorem kjW (a b : TKnown) (ha : kind_Right a = true) (hb : kind_Right b = true) : kind_Within a (kind_Join a b) = true := by
  have hj := kjR a b ha hb
  simp only [kind_Within, kind_Right, kind_number, kind_Join, span_Join, span_Within, span_Right, span_Of, letF_def, gMin_eq, gMax_eq] at *
  grind (splits := 60)
theorem sjC (x y : TSpan) : span_Join x y = span_Join y x := by
  simp only [span_Join, gMin_eq, gMax_eq, Int.min_comm, Int.max_comm]
theorem kjC (a b : TKnown) : kind_Join a b = kind_Join b a := by
  simp only [kind_Join, letF_def]
  rw [sjC (kind_number b).1, sjC b.In]
  by_cases he : a = b
  · subst he; rfl
  · have h1 : ((a.Kind == b.Kind) && ((a.In.Lo == b.In.Lo) && (a.In.Hi == b.In.Hi))) = false := by
      cases hb : ((a.Kind == b.Kind) && ((a.In.Lo == b.In.Lo) && (a.In.Hi == b.In.Hi))) with
      | false => rfl
      | true => exact absurd (eqK hb) he
    have h2 : ((b.Kind == a.Kind) && ((b.In.Lo == a.In.Lo) && (b.In.Hi == a.In.Hi))) = false := by
      cases hb : ((b.Kind == a.Kind) && ((b.In.Lo == a.In.Lo) && (b.In.Hi == a.In.Hi))) with
      | false => rfl
      | true => exact absurd (eqK hb).symm he
    rw [h1, h2, Bool.or_comm (!kind_Right a) (!kind_Right b), Bool.and_comm (kind_number a).2 (kind_number b).2, Bool.and_comm (a.Kind == 2) (b.Kind == 2)]
    rfl
theorem law12_KindOrders_true (a b c : TKnown) (k n len : Int) : law12_KindOrders a b c k n len = true := by
  simp only [law12_KindOrders, letF_def, law12_awake_true, kw1]
  simp only [Bool.not_true, Bool.false_eq_true, if_false, bne_self_eq_false]
  split
  · rename_i h
    simp only [Bool.and_eq_true, Bool.or_eq_true, decide_eq_true_eq, Bool.not_eq_true'] at h
    obtain ⟨h1, ⟨⟨⟨⟨h2, h3⟩, h4⟩, h5⟩⟩ | ⟨h2, h3⟩⟩ := h
    · rw [kw2 a b k n len h1 h2 (by omega) (by omega)] at h5; cases h5
    · rw [kw3 a b c h1 h2] at h3; cases h3
  · split
    · rename_i h
      rw [kj1 a b (by simpa using h)]; rfl
    · rename_i h
      simp only [Bool.or_eq_true, Bool.not_eq_true', not_or, Bool.not_eq_false] at h
      rw [kjC b a, kjR a b h.1 h.2, kjW a b h.1 h.2, kjC a b, kjW b a h.2 h.1]
      simp

theorem kindOrders_any (a0 : TKnown) (a1 : TKnown) (a2 : TKnown) (a3 : Int) (a4 : Int) (a5 : Int) (w : World) (h_a0 : (0 ≤ a0.Kind ∧ a0.Kind ≤ 255) ∧ (0 ≤ a0.In.Lo ∧ a0.In.Lo ≤ 18446744073709551615) ∧ (0 ≤ a0.In.Hi ∧ a0.In.Hi ≤ 18446744073709551615)) (h_a1 : (0 ≤ a1.Kind ∧ a1.Kind ≤ 255) ∧ (0 ≤ a1.In.Lo ∧ a1.In.Lo ≤ 18446744073709551615) ∧ (0 ≤ a1.In.Hi ∧ a1.In.Hi ≤ 18446744073709551615)) (h_a2 : (0 ≤ a2.Kind ∧ a2.Kind ≤ 255) ∧ (0 ≤ a2.In.Lo ∧ a2.In.Lo ≤ 18446744073709551615) ∧ (0 ≤ a2.In.Hi ∧ a2.In.Hi ≤ 18446744073709551615)) (h_a3 : (0 ≤ a3 ∧ a3 ≤ 255)) (h_a4 : (0 ≤ a4 ∧ a4 ≤ 18446744073709551615)) (h_a5 : (-9223372036854775808 ≤ a5 ∧ a5 ≤ 9223372036854775807)) : Calls Try.prog 11 #[.agg #[.int .u8 a0.Kind, .int .u64 a0.In.Lo, .int .u64 a0.In.Hi], .agg #[.int .u8 a1.Kind, .int .u64 a1.In.Lo, .int .u64 a1.In.Hi], .agg #[.int .u8 a2.Kind, .int .u64 a2.In.Lo, .int .u64 a2.In.Hi], .int .u8 a3, .int .u64 a4, .int .i64 a5] w (RetV w (.bool true)) := by
  have h := law12_KindOrders_any a0 a1 a2 a3 a4 a5 w h_a0 h_a1 h_a2 h_a3 h_a4 h_a5
  rwa [law12_KindOrders_true a0 a1 a2 a3 a4 a5] at h
end Go.V
