import Derived.Test.YtcepemagnfpmdaaGreatRows
import Derived.Test.YtcepemagnfpmdaaGreatA1
import Derived.Test.YtcepemagnfpmdaaGreatAB
import Derived.Test.YtcepemagnfpmdaaGreatPq
import Derived.Test.YtcepemagnfpmdaaGreatPz
namespace Go.Proofs.YtcepemagnfpmdaaGreat
open Go.ChangeShapes Go.WideShapes Go.ChangeAt Go.RowKit Go.V Go.X Go.Y
theorem gateNumbers_own : ownKnob Tryz.prog.godebug = none := by kernel_rfl
theorem gateNumbers_laidOut : laidOutB Tryz.prog = true := by kernel_rfl
set_option maxRecDepth 20000 in
theorem gateNumbers_lifted (os : Os) (started : os.Started) (H : Type) (enc : TypeId × Value -> H) :
  ReturnsInHanded {} Tryz.checked os 4 .any (Rows.gateNumbersSpec.pre6 enc Tryz.prog Tryz.f4 Rows.gateNumbersRow.domain false) (Rows.gateNumbersSpec.post enc Tryz.prog Tryz.f4 false true false false) := by
 refine returnsInHanded_of_change (C := Tryz.checked) gateNumbers_own started (by kernel_rfl) Tryz.func4
  (ChangeSpec.witness6 (enc := enc) (C := Tryz.checked) false ⟨#[], #[], []⟩ 8 (by kernel_rfl) (by kernel_rfl) (by kernel_rfl) (by kernel_rfl)) ?_
 intro W base args ds gs before hval0 hW hcnd _
 have hval : ∀ (j : Nat) t v, Tryz.f4.params[j]? = some t -> args[j]? = some v -> Value.okWide Tryz.prog W .any base t v := hval0
 have hW' := hW
 obtain ⟨p, q, hA0, hV, rfl, hfz, hnd⟩ := hW
 have hA : DataW.TrodAll enc Tryz.prog W 0 (fun _ => true) true Tryz.f4.params.toList args.toList ds p := hA0
 rw [Tryz.params4] at hA hval
 obtain ⟨rfl, rfl⟩ := trodVars_none hV
 obtain ⟨e0, rfl, rfl⟩ := trodAll_nil hA
 obtain rfl : args = #[] := by cases args; simp_all
 refine (lawRet (x := ()) (vs := []) qbo_ok rfl (fun _ => rfl) (numbers_true) rfl (φ := fun _ => ⟨none, 0, 0, []⟩) trivial).mono fun e W1 he => ?_
 obtain ⟨rfl, hc⟩ := retLaw he
 exact ⟨_, rfl, lawPost gateNumbers_laidOut hW' rfl rfl (by kernel_rfl) Tryz.underlying4 (by kernel_rfl) hc⟩
theorem gateNumbers_holds : Rows.GateNumbersSaid :=
 OpenClaim.holds_of_wide 4 Tryz.f4 rfl rfl rfl rfl rfl rfl rfl ⟨rfl, rfl, rfl, rfl, rfl⟩ rfl rfl rfl rfl rfl (by kernel_rfl) Tryz.func4 (by kernel_rfl)
  (of_decide_eq_true (by kernel_rfl)) (by unfold Func.isWrapper; first | (rw [if_pos (by decide +kernel)]; kernel_rfl) | (rw [if_neg (by decide +kernel)]; exact ⟨rfl, rfl⟩))
  (fun os started H enc _ => gateNumbers_lifted os started H enc)
end Go.Proofs.YtcepemagnfpmdaaGreat
