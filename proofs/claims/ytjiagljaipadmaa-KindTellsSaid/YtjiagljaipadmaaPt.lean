import Derived.Test.YtjiagljaipadmaaProg
import Derived.Test.YtjiagljaipadmaaLk
import Derived.Test.YtjiagljaipadmaaPa
namespace Go.V
open Go.RowKit Go.Proofs
theorem ktR (a : TKnown) : kind_Right a = ref12_Right a := by
  simp only [kind_Right, ref12_Right, ref12_Right_J0, ref12_Right_J1, span_Right, ref11_Right, span_Of, letF_def]
  grind
theorem ktH (a : TKnown) (k n len : Int) : kind_Holds a k n len = ref12_Holds a k n len := by
  simp only [kind_Holds, ref12_Holds, ktR, span_Has, letF_def, Bool.and_assoc]
theorem ktN (a : TKnown) : kind_number a = ref12_Number a := by
  simp only [kind_number, ref12_Number]
theorem ktW (a b : TKnown) (hb : 0 ≤ b.In.Lo) : kind_Within a b = ref12_Within a b := by
  simp only [kind_Within, kind_Within_J0, ref12_Within, ktR, letF_def]
  cases hra : ref12_Right a
  · simp
  cases hrb : ref12_Right b
  · simp
  simp only [Bool.not_true, Bool.or_self, Bool.false_eq_true, if_false]
  rw [← ktR] at hra hrb
  simp only [kind_Right, span_Right, span_Of, letF_def] at hra hrb
  simp only [kind_number, span_Within]
  obtain ⟨ak, al, ah⟩ := a
  obtain ⟨bk, bl, bh⟩ := b
  simp only at *
  by_cases h0 : bk = 0
  · subst h0; simp
  by_cases h4 : bk = 4
  · subst h4; simp at hrb ⊢; grind
  by_cases h3 : bk = 3
  · subst h3; simp at hrb ⊢; grind
  by_cases h1 : bk = 1
  · subst h1
    by_cases ha : ak = 4
    · subst ha; simp; grind
    · simp [ha]; grind
  · simp [h0, h4, h3, h1]; grind
theorem ktJ (a b : TKnown) : kind_Join a b = ref12_Join a b := by
  simp only [kind_Join, ref12_Join, ktR, ktN, span_Join, ref11_Join, letF_def]
theorem law12_KindTells_true (a b : TKnown) (k n len : Int) (h_a1 : IU8 b.Kind ∧ IU64 b.In.Lo ∧ IU64 b.In.Hi) : law12_KindTells a b k n len = true := by
  simp only [law12_KindTells, letF_def, law12_awake_true, ktR, ktH, ktW a b h_a1.2.1.1, ktJ]
  simp

theorem kindTells_any (a0 : TKnown) (a1 : TKnown) (a2 : Int) (a3 : Int) (a4 : Int) (w : World) (h_a0 : IU8 a0.Kind ∧ IU64 a0.In.Lo ∧ IU64 a0.In.Hi) (h_a1 : IU8 a1.Kind ∧ IU64 a1.In.Lo ∧ IU64 a1.In.Hi) (h_a2 : IU8 a2) (h_a3 : IU64 a3) (h_a4 : II64 a4) : Calls Try.prog 9 #[.agg #[.int .u8 a0.Kind, .int .u64 a0.In.Lo, .int .u64 a0.In.Hi], .agg #[.int .u8 a1.Kind, .int .u64 a1.In.Lo, .int .u64 a1.In.Hi], .int .u8 a2, .int .u64 a3, .int .i64 a4] w (RetV w (.bool true)) := by
  have h := law12_KindTells_any a0 a1 a2 a3 a4 w h_a0 h_a1 h_a2 h_a3 h_a4
  rwa [law12_KindTells_true a0 a1 a2 a3 a4 h_a1] at h
end Go.V
