import Derived.Test.YtampgjnliepkiaaGreatRows
import Derived.Test.YtampgjnliepkiaaGreatA1
import Derived.Test.YtampgjnliepkiaaGreatAB
import Derived.Test.YtampgjnliepkiaaGreatPq
import Derived.Test.YtampgjnliepkiaaGreatM4
namespace Go.Proofs.YtampgjnliepkiaaGreat
open Go.ChangeShapes Go.WideShapes Go.ChangeAt Go.RowKit Go.V Go.X Go.Y
theorem registryDoes_own : ownKnob Tryz.prog.godebug = none := by kernel_rfl
theorem registryDoes_laidOut : laidOutB Tryz.prog = true := by kernel_rfl
set_option maxRecDepth 20000 in
theorem registryDoes_lifted (os : Os) (started : os.Started) (H : Type) (enc : TypeId × Value -> H) :
  ReturnsInHanded {} Tryz.checked os 3 .any (Rows.registryDoesSpec.pre6 enc Tryz.prog Tryz.f3 Rows.registryDoesRow.domain false) (Rows.registryDoesSpec.post enc Tryz.prog Tryz.f3 false true false false) := by
 refine returnsInHanded_of_change (C := Tryz.checked) registryDoes_own started (by kernel_rfl) Tryz.func3
  (ChangeSpec.witness6 (enc := enc) (C := Tryz.checked) false ⟨#[], #[.int .i64 0, .slice none 0 0, .int .i64 0], []⟩ 8 (by kernel_rfl) (by kernel_rfl) (by kernel_rfl) (by kernel_rfl)) ?_
 intro W base args ds gs before hval0 hW hcnd _
 have hval : ∀ (j : Nat) t v, Tryz.f3.params[j]? = some t -> args[j]? = some v -> Value.okWide Tryz.prog W .any base t v := hval0
 have hW' := hW
 obtain ⟨p, q, hA0, hV, rfl, hfz, hnd⟩ := hW
 have hA : DataW.TrodAll enc Tryz.prog W 0 (fun _ => true) true Tryz.f3.params.toList args.toList ds p := hA0
 rw [Tryz.params3] at hA hval
 obtain ⟨rfl, rfl⟩ := trodVars_none hV
 obtain ⟨v0, vs0, d0, ds0, p0, q0, e0, rfl, rfl, h0, r0⟩ := trodAll_cons hA
 obtain ⟨v1, vs1, d1, ds1, p1, q1, e1, rfl, rfl, h1, r1⟩ := trodAll_cons r0
 obtain ⟨v2, vs2, d2, ds2, p2, q2, e2, rfl, rfl, h2, r2⟩ := trodAll_cons r1
 obtain ⟨rfl, rfl, rfl⟩ := trodAll_nil r2
 obtain rfl : args = #[v0, v1, v2] := by cases args; simp_all
 obtain ⟨x0, hx0, gx0⟩ := openArg (T := TT) (ty := .int .i64) packT (by intro i h; cases h) 8 (by kernel_rfl) (by kernel_rfl) (hval 0 3 v0 rfl rfl) h0
 obtain ⟨x1, hx1, gx1⟩ := openArg (T := TT) (ty := .list (.user 0)) packT (by intro i h; cases h) 8 (by kernel_rfl) (by kernel_rfl) (hval 1 22 v1 rfl rfl) h1
 obtain ⟨x2, hx2, gx2⟩ := openArg (T := TT) (ty := .int .i64) packT (by intro i h; cases h) 8 (by kernel_rfl) (by kernel_rfl) (hval 2 3 v2 rfl rfl) h2
 refine (lawRet (x := (x0, x1, x2)) (vs := [v0, v1, v2]) qe_ok rfl (fun _ => rfl) (does_true x0 x1 x2 (goodEnts gx1)) rfl ⟨hx0, hx1, hx2, trivial⟩).mono fun e W1 he => ?_
 obtain ⟨rfl, hc⟩ := retLaw he
 exact ⟨_, rfl, lawPost registryDoes_laidOut hW' rfl rfl (by kernel_rfl) Tryz.underlying4 (by kernel_rfl) hc⟩
theorem registryDoes_holds : Rows.RegistryDoesSaid :=
 OpenClaim.holds_of_wide 3 Tryz.f3 rfl rfl rfl rfl rfl rfl rfl ⟨rfl, rfl, rfl, rfl, rfl⟩ rfl rfl rfl rfl rfl (by kernel_rfl) Tryz.func3 (by kernel_rfl)
  (of_decide_eq_true (by kernel_rfl)) (by unfold Func.isWrapper; first | (rw [if_pos (by decide +kernel)]; kernel_rfl) | (rw [if_neg (by decide +kernel)]; exact ⟨rfl, rfl⟩))
  (fun os started H enc _ => registryDoes_lifted os started H enc)
end Go.Proofs.YtampgjnliepkiaaGreat
