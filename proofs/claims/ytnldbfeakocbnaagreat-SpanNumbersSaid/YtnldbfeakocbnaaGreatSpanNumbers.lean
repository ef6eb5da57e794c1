/- The law SpanNumbers. -/
import Derived.Test.YtnldbfeakocbnaaGreatRows
import Derived.Test.YtnldbfeakocbnaaGreatOp
import Derived.Test.YtnldbfeakocbnaaGreatXO
import Derived.Test.YtnldbfeakocbnaaGreatPq
import Derived.Test.YtnldbfeakocbnaaGreatM3
namespace Go.Proofs.YtnldbfeakocbnaaGreat
open Go.ChangeShapes Go.WideShapes Go.ChangeAt Go.RowKit Go.V Go.X Go.Y
theorem spanNumbers_own : ownKnob Tryz.prog.godebug = none := by kernel_rfl
theorem spanNumbers_laidOut : laidOutB Tryz.prog = true := by kernel_rfl
set_option maxRecDepth 20000 in
theorem spanNumbers_lifted (os : Os) (started : os.Started) (H : Type) (enc : TypeId × Value → H) :
    ReturnsInHanded {} Tryz.checked os 3 .any (Rows.spanNumbersSpec.pre6 enc Tryz.prog Tryz.f3 Rows.spanNumbersRow.domain false) (Rows.spanNumbersSpec.post enc Tryz.prog Tryz.f3 false true false false) := by
  refine returnsInHanded_of_change (C := Tryz.checked) spanNumbers_own started (by kernel_rfl) Tryz.func3
    (ChangeSpec.witness6 (enc := enc) (C := Tryz.checked) false ⟨#[], #[], []⟩ 8 (by kernel_rfl) (by kernel_rfl) (by kernel_rfl) (by kernel_rfl)) ?_
  intro W base args ds gs before hval0 hW hcnd _
  have hval : ∀ (j : Nat) t v, Tryz.f3.params[j]? = some t → args[j]? = some v → Value.okWide Tryz.prog W .any base t v := hval0
  have hW' := hW
  obtain ⟨p, q, hA0, hV, rfl, hfz, hnd⟩ := hW
  have hA : DataW.TrodAll enc Tryz.prog W 0 (fun _ => true) true Tryz.f3.params.toList args.toList ds p := hA0
  rw [Tryz.params3] at hA hval
  obtain ⟨rfl, rfl⟩ := trodVars_none hV
  obtain ⟨e0, rfl, rfl⟩ := trodAll_nil hA
  obtain rfl : args = #[] := by cases args; simp_all
  refine (lawRet (x := ()) (vs := []) law11SpanNumbers_ok rfl (fun _ => rfl) (spanNumbers_true) rfl (φ := fun _ => ⟨none, 0, 0⟩) trivial).mono fun e W1 he => ?_
  obtain ⟨rfl, hc⟩ := retLaw he
  exact ⟨_, rfl, lawPost spanNumbers_laidOut hW' rfl rfl (by kernel_rfl) Tryz.underlying4 (by kernel_rfl) hc⟩
theorem spanNumbers_holds : Rows.SpanNumbersSaid :=
  OpenClaim.holds_of_wide 3 Tryz.f3 rfl rfl rfl rfl rfl rfl rfl ⟨rfl, rfl, rfl, rfl, rfl⟩ rfl rfl rfl rfl rfl (by kernel_rfl) Tryz.func3 (by kernel_rfl)
    (of_decide_eq_true (by kernel_rfl)) (by unfold Func.isWrapper; first | (rw [if_pos (by decide +kernel)]; kernel_rfl) | (rw [if_neg (by decide +kernel)]; exact ⟨rfl, rfl⟩))
    (fun os started H enc _ => spanNumbers_lifted os started H enc)
end Go.Proofs.YtnldbfeakocbnaaGreat
