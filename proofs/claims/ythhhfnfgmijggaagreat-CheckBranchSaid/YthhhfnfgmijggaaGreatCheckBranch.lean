import Derived.Test.YthhhfnfgmijggaaGreatRows
import Derived.Test.YthhhfnfgmijggaaGreatOp
import Derived.Test.YthhhfnfgmijggaaGreatXO
import Derived.Test.YthhhfnfgmijggaaGreatPq
import Derived.Test.YthhhfnfgmijggaaGreatM3
namespace Go.Proofs.YthhhfnfgmijggaaGreat
open Go.ChangeShapes Go.WideShapes Go.ChangeAt Go.RowKit Go.V Go.X Go.Y
theorem checkBranch_own : ownKnob Tryz.prog.godebug = none := by kernel_rfl
theorem checkBranch_laidOut : laidOutB Tryz.prog = true := by kernel_rfl
set_option maxRecDepth 20000 in
theorem checkBranch_lifted (os : Os) (started : os.Started) (H : Type) (enc : TypeId × Value -> H) :
  ReturnsInHanded {} Tryz.checked os 5 .any (Rows.checkBranchSpec.pre6 enc Tryz.prog Tryz.f5 Rows.checkBranchRow.domain false) (Rows.checkBranchSpec.post enc Tryz.prog Tryz.f5 false true false false) := by
 refine returnsInHanded_of_change (C := Tryz.checked) checkBranch_own started (by kernel_rfl) Tryz.func5
  (ChangeSpec.witness6 (enc := enc) (C := Tryz.checked) false ⟨#[], #[.int .i64 0, .int .i64 0, .int .i64 0, .bool false, .bool false], []⟩ 8 (by kernel_rfl) (by kernel_rfl) (by kernel_rfl) (by kernel_rfl)) ?_
 intro W base args ds gs before hval0 hW hcnd _
 have hval : ∀ (j : Nat) t v, Tryz.f5.params[j]? = some t -> args[j]? = some v -> Value.okWide Tryz.prog W .any base t v := hval0
 have hW' := hW
 obtain ⟨p, q, hA0, hV, rfl, hfz, hnd⟩ := hW
 have hA : DataW.TrodAll enc Tryz.prog W 0 (fun _ => true) true Tryz.f5.params.toList args.toList ds p := hA0
 rw [Tryz.params5] at hA hval
 obtain ⟨rfl, rfl⟩ := trodVars_none hV
 obtain ⟨v0, vs0, d0, ds0, p0, q0, e0, rfl, rfl, h0, r0⟩ := trodAll_cons hA
 obtain ⟨v1, vs1, d1, ds1, p1, q1, e1, rfl, rfl, h1, r1⟩ := trodAll_cons r0
 obtain ⟨v2, vs2, d2, ds2, p2, q2, e2, rfl, rfl, h2, r2⟩ := trodAll_cons r1
 obtain ⟨v3, vs3, d3, ds3, p3, q3, e3, rfl, rfl, h3, r3⟩ := trodAll_cons r2
 obtain ⟨v4, vs4, d4, ds4, p4, q4, e4, rfl, rfl, h4, r4⟩ := trodAll_cons r3
 obtain ⟨rfl, rfl, rfl⟩ := trodAll_nil r4
 obtain rfl : args = #[v0, v1, v2, v3, v4] := by cases args; simp_all
 obtain ⟨x0, hx0, gx0⟩ := openArg (T := TT) (ty := .int .i64) packT (by intro i h; cases h) 8 (by kernel_rfl) (by kernel_rfl) (hval 0 3 v0 rfl rfl) h0
 obtain ⟨x1, hx1, gx1⟩ := openArg (T := TT) (ty := .int .i64) packT (by intro i h; cases h) 8 (by kernel_rfl) (by kernel_rfl) (hval 1 3 v1 rfl rfl) h1
 obtain ⟨x2, hx2, gx2⟩ := openArg (T := TT) (ty := .int .i64) packT (by intro i h; cases h) 8 (by kernel_rfl) (by kernel_rfl) (hval 2 3 v2 rfl rfl) h2
 obtain ⟨x3, hx3, gx3⟩ := openArg (T := TT) (ty := .bool) packT (by intro i h; cases h) 8 (by kernel_rfl) (by kernel_rfl) (hval 3 4 v3 rfl rfl) h3
 obtain ⟨x4, hx4, gx4⟩ := openArg (T := TT) (ty := .bool) packT (by intro i h; cases h) 8 (by kernel_rfl) (by kernel_rfl) (hval 4 4 v4 rfl rfl) h4
 refine (lawRet (x := (x0, x1, x2, x3, x4)) (vs := [v0, v1, v2, v3, v4]) qak_ok rfl (fun _ => rfl) (branch_true x0 x1 x2 x3 x4) rfl ⟨hx0, hx1, hx2, hx3, hx4, trivial⟩).mono fun e W1 he => ?_
 obtain ⟨rfl, hc⟩ := retLaw he
 exact ⟨_, rfl, lawPost checkBranch_laidOut hW' rfl rfl (by kernel_rfl) Tryz.underlying4 (by kernel_rfl) hc⟩
theorem checkBranch_holds : Rows.CheckBranchSaid :=
 OpenClaim.holds_of_wide 5 Tryz.f5 rfl rfl rfl rfl rfl rfl rfl ⟨rfl, rfl, rfl, rfl, rfl⟩ rfl rfl rfl rfl rfl (by kernel_rfl) Tryz.func5 (by kernel_rfl)
  (of_decide_eq_true (by kernel_rfl)) (by unfold Func.isWrapper; first | (rw [if_pos (by decide +kernel)]; kernel_rfl) | (rw [if_neg (by decide +kernel)]; exact ⟨rfl, rfl⟩))
  (fun os started H enc _ => checkBranch_lifted os started H enc)
end Go.Proofs.YthhhfnfgmijggaaGreat
