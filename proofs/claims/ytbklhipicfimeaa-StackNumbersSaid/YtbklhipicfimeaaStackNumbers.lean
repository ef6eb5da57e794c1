/- The law StackNumbers. -/
import Derived.Test.YtbklhipicfimeaaRows
import Derived.Test.YtbklhipicfimeaaOp
import Derived.Test.YtbklhipicfimeaaXO
import Derived.Test.YtbklhipicfimeaaPq
import Derived.Test.YtbklhipicfimeaaPe
namespace Go.Proofs.Ytbklhipicfimeaa
open Go.ChangeShapes Go.WideShapes Go.ChangeAt Go.RowKit Go.V Go.X Go.Y
theorem stackNumbers_own : ownKnob Try.prog.godebug = none := by kernel_rfl
theorem stackNumbers_laidOut : laidOutB Try.prog = true := by kernel_rfl
set_option maxRecDepth 20000 in
theorem stackNumbers_lifted (os : Os) (started : os.Started) (H : Type) (enc : TypeId × Value → H) :
    ReturnsInHanded {} Try.checked os 5 .any (Rows.stackNumbersSpec.pre6 enc Try.prog Try.f5 Rows.stackNumbersRow.domain false) (Rows.stackNumbersSpec.post enc Try.prog Try.f5 false true false false) := by
  refine returnsInHanded_of_change (C := Try.checked) stackNumbers_own started (by kernel_rfl) Try.func5
    (ChangeSpec.witness6 (enc := enc) (C := Try.checked) false ⟨#[], #[], []⟩ 8 (by kernel_rfl) (by kernel_rfl) (by kernel_rfl) (by kernel_rfl)) ?_
  intro W base args ds gs before hval0 hW hcnd _
  have hval : ∀ (j : Nat) t v, Try.f5.params[j]? = some t → args[j]? = some v → Value.okWide Try.prog W .any base t v := hval0
  have hW' := hW
  obtain ⟨p, q, hA0, hV, rfl, hfz, hnd⟩ := hW
  have hA : DataW.TrodAll enc Try.prog W 0 (fun _ => true) true Try.f5.params.toList args.toList ds p := hA0
  rw [Try.params5] at hA hval
  obtain ⟨rfl, rfl⟩ := trodVars_none hV
  obtain ⟨e0, rfl, rfl⟩ := trodAll_nil hA
  obtain rfl : args = #[] := by cases args; simp_all
  refine (lawRet (x := ()) (vs := []) law13StackNumbers_ok rfl (fun _ => rfl) (stackNumbers_true) rfl (φ := fun _ => ⟨none, 0, 0⟩) trivial).mono fun e W1 he => ?_
  obtain ⟨rfl, hc⟩ := retLaw he
  exact ⟨_, rfl, lawPost stackNumbers_laidOut hW' rfl rfl (by kernel_rfl) Try.underlying4 (by kernel_rfl) hc⟩
theorem stackNumbers_holds : Rows.StackNumbersSaid :=
  OpenClaim.holds_of_wide 5 Try.f5 rfl rfl rfl rfl rfl rfl rfl ⟨rfl, rfl, rfl, rfl, rfl⟩ rfl rfl rfl rfl rfl (by kernel_rfl) Try.func5 (by kernel_rfl)
    (of_decide_eq_true (by kernel_rfl)) (by unfold Func.isWrapper; first | (rw [if_pos (by decide +kernel)]; kernel_rfl) | (rw [if_neg (by decide +kernel)]; exact ⟨rfl, rfl⟩))
    (fun os started H enc _ => stackNumbers_lifted os started H enc)
end Go.Proofs.Ytbklhipicfimeaa
