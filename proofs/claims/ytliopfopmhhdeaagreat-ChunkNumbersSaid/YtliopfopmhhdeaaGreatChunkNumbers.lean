import Derived.Test.YtliopfopmhhdeaaGreatRows
import Derived.Test.YtliopfopmhhdeaaGreatA1
import Derived.Test.YtliopfopmhhdeaaGreatAB
import Derived.Test.YtliopfopmhhdeaaGreatPq
import Derived.Test.YtliopfopmhhdeaaGreatPf
namespace Go.Proofs.YtliopfopmhhdeaaGreat
open Go.ChangeShapes Go.WideShapes Go.ChangeAt Go.RowKit Go.V Go.X Go.Y
theorem chunkNumbers_own : ownKnob Tryz.prog.godebug = none := by kernel_rfl
theorem chunkNumbers_laidOut : laidOutB Tryz.prog = true := by kernel_rfl
set_option maxRecDepth 20000 in
theorem chunkNumbers_lifted (os : Os) (started : os.Started) (H : Type) (enc : TypeId × Value -> H) :
  ReturnsInHanded {} Tryz.checked os 5 .any (Rows.chunkNumbersSpec.pre6 enc Tryz.prog Tryz.f5 Rows.chunkNumbersRow.domain false) (Rows.chunkNumbersSpec.post enc Tryz.prog Tryz.f5 false true false false) := by
 refine returnsInHanded_of_change (C := Tryz.checked) chunkNumbers_own started (by kernel_rfl) Tryz.func5
  (ChangeSpec.witness6 (enc := enc) (C := Tryz.checked) false ⟨#[], #[], []⟩ 8 (by kernel_rfl) (by kernel_rfl) (by kernel_rfl) (by kernel_rfl)) ?_
 intro W base args ds gs before hval0 hW hcnd _
 have hval : ∀ (j : Nat) t v, Tryz.f5.params[j]? = some t -> args[j]? = some v -> Value.okWide Tryz.prog W .any base t v := hval0
 have hW' := hW
 obtain ⟨p, q, hA0, hV, rfl, hfz, hnd⟩ := hW
 have hA : DataW.TrodAll enc Tryz.prog W 0 (fun _ => true) true Tryz.f5.params.toList args.toList ds p := hA0
 rw [Tryz.params5] at hA hval
 obtain ⟨rfl, rfl⟩ := trodVars_none hV
 obtain ⟨e0, rfl, rfl⟩ := trodAll_nil hA
 obtain rfl : args = #[] := by cases args; simp_all
 refine (lawRet (x := ()) (vs := []) qd_ok rfl (fun _ => rfl) (chunkNumbers_true) rfl (φ := fun _ => ⟨none, 0, 0, []⟩) trivial).mono fun e W1 he => ?_
 obtain ⟨rfl, hc⟩ := retLaw he
 exact ⟨_, rfl, lawPost chunkNumbers_laidOut hW' rfl rfl (by kernel_rfl) Tryz.underlying4 (by kernel_rfl) hc⟩
theorem chunkNumbers_holds : Rows.ChunkNumbersSaid :=
 OpenClaim.holds_of_wide 5 Tryz.f5 rfl rfl rfl rfl rfl rfl rfl ⟨rfl, rfl, rfl, rfl, rfl⟩ rfl rfl rfl rfl rfl (by kernel_rfl) Tryz.func5 (by kernel_rfl)
  (of_decide_eq_true (by kernel_rfl)) (by unfold Func.isWrapper; first | (rw [if_pos (by decide +kernel)]; kernel_rfl) | (rw [if_neg (by decide +kernel)]; exact ⟨rfl, rfl⟩))
  (fun os started H enc _ => chunkNumbers_lifted os started H enc)
end Go.Proofs.YtliopfopmhhdeaaGreat
