/- The law InsEach. -/
import Derived.Test.YtdlmkfnjljlmgaaRows
import Derived.Test.YtdlmkfnjljlmgaaOp
import Derived.Test.YtdlmkfnjljlmgaaXO
import Derived.Test.YtdlmkfnjljlmgaaPq
import Derived.Test.YtdlmkfnjljlmgaaPn
namespace Go.Proofs.Ytdlmkfnjljlmgaa
open Go.ChangeShapes Go.WideShapes Go.ChangeAt Go.RowKit Go.V Go.X Go.Y
theorem insEach_own : ownKnob Try.prog.godebug = none := by kernel_rfl
theorem insEach_laidOut : laidOutB Try.prog = true := by kernel_rfl
set_option maxRecDepth 20000 in
theorem insEach_lifted (os : Os) (started : os.Started) (H : Type) (enc : TypeId × Value → H) :
    ReturnsInHanded {} Try.checked os 7 .any (Rows.insEachSpec.pre6 enc Try.prog Try.f7 Rows.insEachRow.domain false) (Rows.insEachSpec.post enc Try.prog Try.f7 false true false false) := by
  refine returnsInHanded_of_change (C := Try.checked) insEach_own started (by kernel_rfl) Try.func7
    (ChangeSpec.witness6 (enc := enc) (C := Try.checked) false ⟨#[], #[], []⟩ 8 (by kernel_rfl) (by kernel_rfl) (by kernel_rfl) (by kernel_rfl)) ?_
  intro W base args ds gs before hval0 hW hcnd _
  have hval : ∀ (j : Nat) t v, Try.f7.params[j]? = some t → args[j]? = some v → Value.okWide Try.prog W .any base t v := hval0
  have hW' := hW
  obtain ⟨p, q, hA0, hV, rfl, hfz, hnd⟩ := hW
  have hA : DataW.TrodAll enc Try.prog W 0 (fun _ => true) true Try.f7.params.toList args.toList ds p := hA0
  rw [Try.params7] at hA hval
  obtain ⟨rfl, rfl⟩ := trodVars_none hV
  obtain ⟨e0, rfl, rfl⟩ := trodAll_nil hA
  obtain rfl : args = #[] := by cases args; simp_all
  refine (lawRet (x := ()) (vs := []) law06InsEach_ok rfl (fun _ => rfl) (insEach_true) rfl (φ := fun _ => ⟨none, 0, 0⟩) trivial).mono fun e W1 he => ?_
  obtain ⟨rfl, hc⟩ := retLaw he
  exact ⟨_, rfl, lawPost insEach_laidOut hW' rfl rfl (by kernel_rfl) Try.underlying4 (by kernel_rfl) hc⟩
theorem insEach_holds : Rows.InsEachSaid :=
  OpenClaim.holds_of_wide 7 Try.f7 rfl rfl rfl rfl rfl rfl rfl ⟨rfl, rfl, rfl, rfl, rfl⟩ rfl rfl rfl rfl rfl (by kernel_rfl) Try.func7 (by kernel_rfl)
    (of_decide_eq_true (by kernel_rfl)) (by unfold Func.isWrapper; first | (rw [if_pos (by decide +kernel)]; kernel_rfl) | (rw [if_neg (by decide +kernel)]; exact ⟨rfl, rfl⟩))
    (fun os started H enc _ => insEach_lifted os started H enc)
end Go.Proofs.Ytdlmkfnjljlmgaa
