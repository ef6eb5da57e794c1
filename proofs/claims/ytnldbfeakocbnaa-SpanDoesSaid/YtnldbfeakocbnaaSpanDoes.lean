/- The law SpanDoes. -/
import Derived.Test.YtnldbfeakocbnaaRows
import Derived.Test.YtnldbfeakocbnaaOp
import Derived.Test.YtnldbfeakocbnaaXO
import Derived.Test.YtnldbfeakocbnaaPq
import Derived.Test.YtnldbfeakocbnaaM3
namespace Go.Proofs.Ytnldbfeakocbnaa
open Go.ChangeShapes Go.WideShapes Go.ChangeAt Go.RowKit Go.V Go.X Go.Y
theorem spanDoes_own : ownKnob Try.prog.godebug = none := by kernel_rfl
theorem spanDoes_laidOut : laidOutB Try.prog = true := by kernel_rfl
set_option maxRecDepth 20000 in
theorem spanDoes_lifted (os : Os) (started : os.Started) (H : Type) (enc : TypeId × Value → H) :
    ReturnsInHanded {} Try.checked os 3 .any (Rows.spanDoesSpec.pre6 enc Try.prog Try.f3 Rows.spanDoesRow.domain false) (Rows.spanDoesSpec.post enc Try.prog Try.f3 false true false false) := by
  refine returnsInHanded_of_change (C := Try.checked) spanDoes_own started (by kernel_rfl) Try.func3
    (ChangeSpec.witness6 (enc := enc) (C := Try.checked) false ⟨#[], #[.int .u8 0, .bool false, .bool false, .agg #[.int .u64 0, .int .u64 0], .agg #[.int .u64 0, .int .u64 0]], []⟩ 8 (by kernel_rfl) (by kernel_rfl) (by kernel_rfl) (by kernel_rfl)) ?_
  intro W base args ds gs before hval0 hW hcnd _
  have hval : ∀ (j : Nat) t v, Try.f3.params[j]? = some t → args[j]? = some v → Value.okWide Try.prog W .any base t v := hval0
  have hW' := hW
  obtain ⟨p, q, hA0, hV, rfl, hfz, hnd⟩ := hW
  have hA : DataW.TrodAll enc Try.prog W 0 (fun _ => true) true Try.f3.params.toList args.toList ds p := hA0
  rw [Try.params3] at hA hval
  obtain ⟨rfl, rfl⟩ := trodVars_none hV
  obtain ⟨v0, vs0, d0, ds0, p0, q0, e0, rfl, rfl, h0, r0⟩ := trodAll_cons hA
  obtain ⟨v1, vs1, d1, ds1, p1, q1, e1, rfl, rfl, h1, r1⟩ := trodAll_cons r0
  obtain ⟨v2, vs2, d2, ds2, p2, q2, e2, rfl, rfl, h2, r2⟩ := trodAll_cons r1
  obtain ⟨v3, vs3, d3, ds3, p3, q3, e3, rfl, rfl, h3, r3⟩ := trodAll_cons r2
  obtain ⟨v4, vs4, d4, ds4, p4, q4, e4, rfl, rfl, h4, r4⟩ := trodAll_cons r3
  obtain ⟨rfl, rfl, rfl⟩ := trodAll_nil r4
  obtain rfl : args = #[v0, v1, v2, v3, v4] := by cases args; simp_all
  obtain ⟨x0, hx0, gx0⟩ := openArg (T := TT) (ty := .int .u8) packT (by intro i h; cases h) 8 (by kernel_rfl) (by kernel_rfl) (hval 0 22 v0 rfl rfl) h0
  obtain ⟨x1, hx1, gx1⟩ := openArg (T := TT) (ty := .bool) packT (by intro i h; cases h) 8 (by kernel_rfl) (by kernel_rfl) (hval 1 4 v1 rfl rfl) h1
  obtain ⟨x2, hx2, gx2⟩ := openArg (T := TT) (ty := .bool) packT (by intro i h; cases h) 8 (by kernel_rfl) (by kernel_rfl) (hval 2 4 v2 rfl rfl) h2
  obtain ⟨x3, hx3, gx3⟩ := openArgU (T := TT) (i := 0) packT 8 (by kernel_rfl) Try.underlying25 (by kernel_rfl) (hval 3 25 v3 rfl rfl) h3
  obtain ⟨x4, hx4, gx4⟩ := openArgU (T := TT) (i := 0) packT 8 (by kernel_rfl) Try.underlying25 (by kernel_rfl) (hval 4 25 v4 rfl rfl) h4
  refine (lawRet (x := (x0, x1, x2, x3, x4)) (vs := [v0, v1, v2, v3, v4]) law11SpanDoes_ok rfl (fun _ => rfl) (spanDoes_true x0 x1 x2 x3 x4 (goodSpan gx3) (goodSpan gx4)) rfl ⟨hx0, hx1, hx2, hx3, hx4, trivial⟩).mono fun e W1 he => ?_
  obtain ⟨rfl, hc⟩ := retLaw he
  exact ⟨_, rfl, lawPost spanDoes_laidOut hW' rfl rfl (by kernel_rfl) Try.underlying4 (by kernel_rfl) hc⟩
theorem spanDoes_holds : Rows.SpanDoesSaid :=
  OpenClaim.holds_of_wide 3 Try.f3 rfl rfl rfl rfl rfl rfl rfl ⟨rfl, rfl, rfl, rfl, rfl⟩ rfl rfl rfl rfl rfl (by kernel_rfl) Try.func3 (by kernel_rfl)
    (of_decide_eq_true (by kernel_rfl)) (by unfold Func.isWrapper; first | (rw [if_pos (by decide +kernel)]; kernel_rfl) | (rw [if_neg (by decide +kernel)]; exact ⟨rfl, rfl⟩))
    (fun os started H enc _ => spanDoes_lifted os started H enc)
end Go.Proofs.Ytnldbfeakocbnaa
