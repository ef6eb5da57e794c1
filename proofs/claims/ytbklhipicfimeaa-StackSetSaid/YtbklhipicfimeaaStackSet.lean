/- StackSet returns true for every two rows of steps, place and size, and leaves its arguments as they were: no condition. -/
import Derived.Test.YtbklhipicfimeaaRows
import Derived.Test.YtbklhipicfimeaaOp
import Derived.Test.YtbklhipicfimeaaLc
import Derived.Test.YtbklhipicfimeaaLo
namespace Go.Proofs.Ytbklhipicfimeaa
open Go.ChangeShapes Go.WideShapes Go.ChangeAt Go.RowKit Go.V
theorem stackSet_own : ownKnob Try.prog.godebug = none := by kernel_rfl
theorem stackSet_laidOut : laidOutB Try.prog = true := by kernel_rfl
theorem stackSet_lifted (os : Os) (started : os.Started) (H : Type) (enc : TypeId × Value → H) :
    ReturnsInHanded {} Try.checked os 6 .any (Rows.stackSetSpec.pre6 enc Try.prog Try.f6 Rows.stackSetRow.domain false) (Rows.stackSetSpec.post enc Try.prog Try.f6 false true false false) := by
  refine returnsInHanded_of_change (C := Try.checked) stackSet_own started (by kernel_rfl) Try.func6
    (ChangeSpec.witness6 (enc := enc) (C := Try.checked) false ⟨#[], #[.slice none 0 0, .slice none 0 0, .int .i64 0, .int .i64 0], []⟩ 8 (by kernel_rfl) (by kernel_rfl) (by kernel_rfl) (by kernel_rfl)) ?_
  intro W base args ds gs before hval0 hW hcnd _
  have hval : ∀ (j : Nat) t v, Try.f6.params[j]? = some t → args[j]? = some v → Value.okWide Try.prog W .any base t v := hval0
  have hW' := hW
  obtain ⟨p, q, hA0, hV, rfl, hfz, hnd⟩ := hW
  have hA : DataW.TrodAll enc Try.prog W 0 (fun _ => true) true Try.f6.params.toList args.toList ds p := hA0
  rw [Try.params6] at hA hval
  obtain ⟨rfl, rfl⟩ := trodVars_none hV
  obtain ⟨v0, vs0, d0, ds0, p0, q0, e0, rfl, rfl, h0, r0⟩ := trodAll_cons hA
  obtain ⟨v1, vs1, d1, ds1, p1, q1, e1, rfl, rfl, h1, r1⟩ := trodAll_cons r0
  obtain ⟨v2, vs2, d2, ds2, p2, q2, e2, rfl, rfl, h2, r2⟩ := trodAll_cons r1
  obtain ⟨v3, vs3, d3, ds3, p3, q3, e3, rfl, rfl, h3, r3⟩ := trodAll_cons r2
  obtain ⟨rfl, rfl, rfl⟩ := trodAll_nil r3
  obtain rfl : args = #[v0, v1, v2, v3] := by cases args; simp_all
  obtain ⟨ad0, ds0, cap0, rfl, hr0, hg0, hle0, hcap0, hn0⟩ := openSlV Do.c 4 Do.good (by kernel_rfl) (fun _ => rfl) Do.open Try.underlying33 (hval 0 33 v0 rfl rfl) h0
  obtain ⟨ad1, ds1, cap1, rfl, hr1, hg1, hle1, hcap1, hn1⟩ := openSlV Do.c 4 Do.good (by kernel_rfl) (fun _ => rfl) Do.open Try.underlying33 (hval 1 33 v1 rfl rfl) h1
  obtain ⟨a2, rfl, wa2⟩ := openInt Try.underlying2 (hval 2 2 v2 rfl rfl) h2
  have hb2 : -9223372036854775808 ≤ a2 ∧ a2 ≤ 9223372036854775807 := wa2
  obtain ⟨a3, rfl, wa3⟩ := openInt Try.underlying3 (hval 3 3 v3 rfl rfl) h3
  have hb3 : -9223372036854775808 ≤ a3 ∧ a3 ≤ 9223372036854775807 := wa3
  refine (stackSet_any ad0 ad1 cap0 cap1 ds0 ds1 a2 a3 W hr0 hr1 hg0 hg1).mono fun e W1 he => ?_
  obtain ⟨rfl, hc⟩ := retLaw he
  exact ⟨_, rfl, lawPost stackSet_laidOut hW' rfl rfl (by kernel_rfl) Try.underlying4 (by kernel_rfl) hc⟩
theorem stackSet_holds : Rows.StackSetSaid :=
  OpenClaim.holds_of_wide 6 Try.f6 rfl rfl rfl rfl rfl rfl rfl ⟨rfl, rfl, rfl, rfl, rfl⟩ rfl rfl rfl rfl rfl (by kernel_rfl) Try.func6 (by kernel_rfl)
    (of_decide_eq_true (by kernel_rfl)) (by unfold Func.isWrapper; first | (rw [if_pos (by decide +kernel)]; kernel_rfl) | (rw [if_neg (by decide +kernel)]; exact ⟨rfl, rfl⟩))
    (fun os started H enc _ => stackSet_lifted os started H enc)
end Go.Proofs.Ytbklhipicfimeaa
