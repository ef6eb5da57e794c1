/- The law FormLong. -/
import Derived.Test.YtdlmkfnjljlmgaaRows
import Derived.Test.YtdlmkfnjljlmgaaOp
import Derived.Test.YtdlmkfnjljlmgaaXO
import Derived.Test.YtdlmkfnjljlmgaaPq
import Derived.Test.YtdlmkfnjljlmgaaQf
namespace Go.Proofs.Ytdlmkfnjljlmgaa
open Go.ChangeShapes Go.WideShapes Go.ChangeAt Go.RowKit Go.V Go.X Go.Y
theorem formLong_own : ownKnob Try.prog.godebug = none := by kernel_rfl
theorem formLong_laidOut : laidOutB Try.prog = true := by kernel_rfl
set_option maxRecDepth 20000 in
theorem formLong_lifted (os : Os) (started : os.Started) (H : Type) (enc : TypeId × Value → H) :
    ReturnsInHanded {} Try.checked os 9 .any (Rows.formLongSpec.pre6 enc Try.prog Try.f9 Rows.formLongRow.domain false) (Rows.formLongSpec.post enc Try.prog Try.f9 false true false false) := by
  refine returnsInHanded_of_change (C := Try.checked) formLong_own started (by kernel_rfl) Try.func9
    (ChangeSpec.witness6 (enc := enc) (C := Try.checked) false ⟨#[], #[.int .i64 0, .int .i64 0], []⟩ 8 (by kernel_rfl) (by kernel_rfl) (by kernel_rfl) (by kernel_rfl)) ?_
  intro W base args ds gs before hval0 hW hcnd _
  have hval : ∀ (j : Nat) t v, Try.f9.params[j]? = some t → args[j]? = some v → Value.okWide Try.prog W .any base t v := hval0
  have hW' := hW
  obtain ⟨p, q, hA0, hV, rfl, hfz, hnd⟩ := hW
  have hA : DataW.TrodAll enc Try.prog W 0 (fun _ => true) true Try.f9.params.toList args.toList ds p := hA0
  rw [Try.params9] at hA hval
  obtain ⟨rfl, rfl⟩ := trodVars_none hV
  obtain ⟨v0, vs0, d0, ds0, p0, q0, e0, rfl, rfl, h0, r0⟩ := trodAll_cons hA
  obtain ⟨v1, vs1, d1, ds1, p1, q1, e1, rfl, rfl, h1, r1⟩ := trodAll_cons r0
  obtain ⟨rfl, rfl, rfl⟩ := trodAll_nil r1
  obtain rfl : args = #[v0, v1] := by cases args; simp_all
  obtain ⟨x0, hx0, gx0⟩ := openArg (T := TT) (ty := .int .i64) packT (by intro i h; cases h) 8 (by kernel_rfl) (by kernel_rfl) (hval 0 3 v0 rfl rfl) h0
  obtain ⟨x1, hx1, gx1⟩ := openArg (T := TT) (ty := .int .i64) packT (by intro i h; cases h) 8 (by kernel_rfl) (by kernel_rfl) (hval 1 3 v1 rfl rfl) h1
  refine (lawRet (x := (x0, x1)) (vs := [v0, v1]) law08FormLong_ok rfl (fun _ => rfl) (formLong_true x0 x1) rfl ⟨hx0, hx1, trivial⟩).mono fun e W1 he => ?_
  obtain ⟨rfl, hc⟩ := retLaw he
  exact ⟨_, rfl, lawPost formLong_laidOut hW' rfl rfl (by kernel_rfl) Try.underlying4 (by kernel_rfl) hc⟩
theorem formLong_holds : Rows.FormLongSaid :=
  OpenClaim.holds_of_wide 9 Try.f9 rfl rfl rfl rfl rfl rfl rfl ⟨rfl, rfl, rfl, rfl, rfl⟩ rfl rfl rfl rfl rfl (by kernel_rfl) Try.func9 (by kernel_rfl)
    (of_decide_eq_true (by kernel_rfl)) (by unfold Func.isWrapper; first | (rw [if_pos (by decide +kernel)]; kernel_rfl) | (rw [if_neg (by decide +kernel)]; exact ⟨rfl, rfl⟩))
    (fun os started H enc _ => formLong_lifted os started H enc)
end Go.Proofs.Ytdlmkfnjljlmgaa
