/- SpanSound returns true for all arguments, and leaves them as they were: no condition. -/
import Derived.Test.YtjiagljaipadmaaRows
import Derived.Test.YtjiagljaipadmaaOp
import Derived.Test.YtjiagljaipadmaaPs
import Derived.Test.YtjiagljaipadmaaOa
namespace Go.Proofs.Ytjiagljaipadmaa
open Go.ChangeShapes Go.WideShapes Go.ChangeAt Go.RowKit Go.V
theorem spanSound_own : ownKnob Try.prog.godebug = none := by kernel_rfl
theorem spanSound_laidOut : laidOutB Try.prog = true := by kernel_rfl
set_option maxRecDepth 20000 in
theorem spanSound_lifted (os : Os) (started : os.Started) (H : Type) (enc : TypeId × Value → H) :
    ReturnsInHanded {} Try.checked os 7 .any (Rows.spanSoundSpec.pre6 enc Try.prog Try.f7 Rows.spanSoundRow.domain false) (Rows.spanSoundSpec.post enc Try.prog Try.f7 false true false false) := by
  refine returnsInHanded_of_change (C := Try.checked) spanSound_own started (by kernel_rfl) Try.func7
    (ChangeSpec.witness6 (enc := enc) (C := Try.checked) false ⟨#[], #[.int .i64 (0 : Int), .bool false, .agg #[.int .u64 (0 : Int), .int .u64 (0 : Int)], .agg #[.int .u64 (0 : Int), .int .u64 (0 : Int)], .int .u64 (0 : Int), .int .u64 (0 : Int)], []⟩ 8 (by kernel_rfl) (by kernel_rfl) (by kernel_rfl) (by kernel_rfl)) ?_
  intro W base args ds gs before hval0 hW hcnd _
  have hval : ∀ (j : Nat) t v, Try.f7.params[j]? = some t → args[j]? = some v → Value.okWide Try.prog W .any base t v := hval0
  have hW' := hW
  obtain ⟨p, q, hA0, hV, rfl, hfz, hnd⟩ := hW
  have hA : DataW.TrodAll enc Try.prog W 0 (fun _ => true) true Try.f7.params.toList args.toList ds p := hA0
  rw [Try.params7] at hA hval
  obtain ⟨rfl, rfl⟩ := trodVars_none hV
  obtain ⟨v0, vs0, d0, ds0, p0, q0, e0, rfl, rfl, h0, r0⟩ := trodAll_cons hA
  obtain ⟨v1, vs1, d1, ds1, p1, q1, e1, rfl, rfl, h1, r1⟩ := trodAll_cons r0
  obtain ⟨v2, vs2, d2, ds2, p2, q2, e2, rfl, rfl, h2, r2⟩ := trodAll_cons r1
  obtain ⟨v3, vs3, d3, ds3, p3, q3, e3, rfl, rfl, h3, r3⟩ := trodAll_cons r2
  obtain ⟨v4, vs4, d4, ds4, p4, q4, e4, rfl, rfl, h4, r4⟩ := trodAll_cons r3
  obtain ⟨v5, vs5, d5, ds5, p5, q5, e5, rfl, rfl, h5, r5⟩ := trodAll_cons r4
  obtain ⟨rfl, rfl, rfl⟩ := trodAll_nil r5
  obtain rfl : args = #[v0, v1, v2, v3, v4, v5] := by cases args; simp_all
  obtain ⟨a0, rfl, wa0⟩ := openInt Try.underlying3 (hval 0 3 v0 rfl rfl) h0
  obtain ⟨a1, rfl⟩ := openBool Try.underlying4 (hval 1 4 v1 rfl rfl) h1
  obtain ⟨a2, rfl, h_a2⟩ := TSpan.openV (hval 2 25 v2 rfl rfl) h2
  obtain ⟨a3, rfl, h_a3⟩ := TSpan.openV (hval 3 25 v3 rfl rfl) h3
  obtain ⟨a4, rfl, wa4⟩ := openInt Try.underlying23 (hval 4 23 v4 rfl rfl) h4
  obtain ⟨a5, rfl, wa5⟩ := openInt Try.underlying23 (hval 5 23 v5 rfl rfl) h5
  refine (spanSound_any a0 a1 a2 a3 a4 a5 W (bdI64 wa0) h_a2 h_a3 (bdU64 wa4) (bdU64 wa5)).mono fun e W1 he => ?_
  obtain ⟨rfl, hc⟩ := retLaw he
  exact ⟨_, rfl, lawPost spanSound_laidOut hW' rfl rfl (by kernel_rfl) Try.underlying4 (by kernel_rfl) hc⟩
theorem spanSound_holds : Rows.SpanSoundSaid :=
  OpenClaim.holds_of_wide 7 Try.f7 rfl rfl rfl rfl rfl rfl rfl ⟨rfl, rfl, rfl, rfl, rfl⟩ rfl rfl rfl rfl rfl (by kernel_rfl) Try.func7 (by kernel_rfl)
    (of_decide_eq_true (by kernel_rfl)) (by unfold Func.isWrapper; first | (rw [if_pos (by decide +kernel)]; kernel_rfl) | (rw [if_neg (by decide +kernel)]; exact ⟨rfl, rfl⟩))
    (fun os started H enc _ => spanSound_lifted os started H enc)
end Go.Proofs.Ytjiagljaipadmaa
