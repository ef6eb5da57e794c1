import Derived.Test.YtjiagljaipadmaaProg
import Derived.Test.YtjiagljaipadmaaLe
import Derived.Test.YtjiagljaipadmaaPb
namespace Go.V
open Go.RowKit Go.Proofs
theorem stMeet (a b : TSpan) : span_Meet a b = ref11_Meet a b := by
  simp only [span_Meet, ref11_Meet, span_Right, ref11_Right, letF_def]
theorem stJoin (a b : TSpan) : span_Join a b = ref11_Join a b := by simp only [span_Join, ref11_Join]
theorem stWithin (a b : TSpan) : span_Within a b = ref11_Within a b := by simp only [span_Within, ref11_Within, ge_iff_le]
theorem stHas (a : TSpan) (n : Int) : span_Has a n = ref11_Has a n := by simp only [span_Has, ref11_Has, ge_iff_le]
theorem stRight (a : TSpan) : span_Right a = ref11_Right a := by simp only [span_Right, ref11_Right]
theorem stOf (n : Int) : span_Of n = ref11_Of n := by simp only [span_Of, ref11_Of]
theorem stAll (b : Bool) : span_All b = ref11_All b := by cases b <;> simp [span_All, ref11_All, ref11_most]
theorem law11_SpanTells_true (a b : TSpan) (n : Int) (narrow : Bool) : law11_SpanTells a b n narrow = true := by
  simp only [law11_SpanTells, letF_def, law11_awake_true, stMeet, stJoin, stWithin, stHas, stRight, stOf, stAll]
  simp

theorem spanTells_any (a0 : TSpan) (a1 : TSpan) (a2 : Int) (a3 : Bool) (w : World) (h_a0 : IU64 a0.Lo ∧ IU64 a0.Hi) (h_a1 : IU64 a1.Lo ∧ IU64 a1.Hi) (h_a2 : IU64 a2) : Calls Try.prog 5 #[.agg #[.int .u64 a0.Lo, .int .u64 a0.Hi], .agg #[.int .u64 a1.Lo, .int .u64 a1.Hi], .int .u64 a2, .bool a3] w (RetV w (.bool true)) := by
  have h := law11_SpanTells_any a0 a1 a2 a3 w h_a0 h_a1 h_a2
  rwa [law11_SpanTells_true a0 a1 a2 a3] at h
end Go.V
