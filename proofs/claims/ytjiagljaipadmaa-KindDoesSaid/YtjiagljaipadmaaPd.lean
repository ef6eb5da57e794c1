import Derived.Test.YtjiagljaipadmaaProg
import Derived.Test.YtjiagljaipadmaaLd
import Derived.Test.YtjiagljaipadmaaPa
import Derived.Test.YtjiagljaipadmaaMa
namespace Go.V
open Go.RowKit Go.Proofs
theorem kdR (a : TKnown) : kind_Right a = ref12_Right a := by
  simp only [kind_Right, ref12_Right, ref12_Right_J0, ref12_Right_J1, span_Right, ref11_Right, span_Of, letF_def]
  grind
theorem kdN (a : TKnown) : kind_number a = ref12_Number a := by
  simp only [kind_number, ref12_Number]
theorem kd_nought {s : TSpan} (nw : Bool) (h : 0 ≤ s.Lo ∧ s.Lo ≤ s.Hi) : kind_nought s nw = ((s.Lo == 0) || (nw && decide (s.Hi > 4294967295))) := by
  simp only [kind_nought, span_Has, span_Within, span_All, letF_def]
  cases nw <;> simp <;> rw [Bool.eq_iff_iff] <;> simp <;> omega
theorem kd_num {a : TKnown} (h : IU64 a.In.Lo ∧ IU64 a.In.Hi) : IU64 (ref12_Number a).1.Lo ∧ IU64 (ref12_Number a).1.Hi := by
  unfold ref12_Number
  split
  · exact ⟨by decide, by decide⟩
  · exact h
theorem kd_le {a : TKnown} (hr : ref12_Right a = true) (h : (ref12_Number a).2 = true) : (ref12_Number a).1.Lo ≤ (ref12_Number a).1.Hi := by
  simp only [ref12_Right, ref12_Right_J0, ref12_Right_J1, ref12_Number, ref11_Right, letF_def] at *
  grind
theorem kdD {op : Int} {nw : Bool} {a b : TKnown} (ha : IU64 a.In.Lo ∧ IU64 a.In.Hi) (hb : IU64 b.In.Lo ∧ IU64 b.In.Hi) : kind_Do op nw a b = ref12_Do op nw a b := by
  have hD : ∀ (n : Bool) (x y : TSpan), (IU64 x.Lo ∧ IU64 x.Hi) → (IU64 y.Lo ∧ IU64 y.Hi) → span_Do op n x y = ref11_Do op n x y := fun n x y hx hy => Do_same hx hy
  simp only [kind_Do, kind_Do_J0, kind_Do_J1, ref12_Do, ref12_Do_J0, ref12_Do_J1, kdR, kdN, letF_def]
  cases hra : ref12_Right a
  · simp
  cases hrb : ref12_Right b
  · simp
  have na := kd_num ha
  have nb := kd_num hb
  have la := kd_le hra
  have lb := kd_le hrb
  have ea : (⟨a.Kind, ⟨a.In.Lo, a.In.Hi⟩⟩ : TKnown) = a := rfl
  have eb : (⟨b.Kind, ⟨b.In.Lo, b.In.Hi⟩⟩ : TKnown) = b := rfl
  simp only [ea, eb]
  have hNa := hD nw _ _ na nb; have hNb := hD nw _ _ nb nb; have hNc := hD nw _ _ na na
  have hI := hD false _ _ ha nb
  have hI2 := hD false _ _ ha na
  have hI3 := hD false _ _ hb nb
  have ka : a.In = (ref12_Number a).1 ∨ a.Kind = 4 := by unfold ref12_Number; split <;> simp_all
  by_cases h13 : op = 13
  · subst h13
    simp only [Bool.not_true]
    cases h2 : (ref12_Number a).2 <;> simp [hNc]
  by_cases h12 : op = 12
  · subst h12
    cases nw <;> simp
    cases h2 : (ref12_Number b).2 <;> simp [hNb]
  · have e12 : (op == 12) = false := by simpa using h12
    have e13 : (op == 13) = false := by simpa using h13
    simp only [e12, e13, bne, Bool.not_false, Bool.and_true, Bool.true_and, Bool.false_and, Bool.not_true, Bool.or_false, Bool.false_eq_true, if_false]
    by_cases hop : (decide (op < 1) || decide (op > 13)) = true
    · rw [if_pos hop, if_pos hop]
    rw [if_neg hop, if_neg hop]
    by_cases h0 : ((a.Kind == 0) || (b.Kind == 0)) = true
    · rw [if_pos h0, if_pos h0]
    rw [if_neg h0, if_neg h0]
    cases hA : (ref12_Number a).2 <;> cases hB : (ref12_Number b).2
    · simp
    · simp only [hI]
      have hk1 : a.Kind ≠ 1 := by intro h; unfold ref12_Number at hA; simp [h] at hA
      have hk4 : a.Kind ≠ 4 := by intro h; unfold ref12_Number at hA; simp [h] at hA
      have hk : a.Kind = 2 ∨ a.Kind = 3 := by
        rw [← kdR] at hra; unfold kind_Right at hra; grind
      have eN : (⟨(ref12_Number b).1.Lo, (ref12_Number b).1.Hi⟩ : TSpan) = (ref12_Number b).1 := rfl
      simp [eN]
      clear hD hI hI2 hI3 hNa hNb hNc ka la lb na nb
      generalize ref11_Do op false a.In (ref12_Number b).1 = r
      generalize ref12_Number b = nb at *
      rcases hk with hk | hk <;> simp only [hk] <;> grind
    · simp
    · simp only [hA, hB] at *
      simp [hNa, kd_nought nw ⟨nb.1.1, lb trivial⟩]
theorem law12_KindDoes_true (op : Int) (nw : Bool) (a b : TKnown) (ha : IU8 a.Kind ∧ IU64 a.In.Lo ∧ IU64 a.In.Hi) (hb : IU8 b.Kind ∧ IU64 b.In.Lo ∧ IU64 b.In.Hi) : law12_KindDoes op nw a b = true := by
  simp only [law12_KindDoes, letF_def, law12_awake_true, kdD ha.2 hb.2]
  simp

theorem kindDoes_any (a0 : Int) (a1 : Bool) (a2 : TKnown) (a3 : TKnown) (w : World) (h_a0 : IU8 a0) (h_a2 : IU8 a2.Kind ∧ IU64 a2.In.Lo ∧ IU64 a2.In.Hi) (h_a3 : IU8 a3.Kind ∧ IU64 a3.In.Lo ∧ IU64 a3.In.Hi) : Calls Try.prog 8 #[.int .u8 a0, .bool a1, .agg #[.int .u8 a2.Kind, .int .u64 a2.In.Lo, .int .u64 a2.In.Hi], .agg #[.int .u8 a3.Kind, .int .u64 a3.In.Lo, .int .u64 a3.In.Hi]] w (RetV w (.bool true)) := by
  have h := law12_KindDoes_any a0 a1 a2 a3 w h_a0 h_a2 h_a3
  rwa [law12_KindDoes_true a0 a1 a2 a3 h_a2 h_a3] at h
end Go.V
