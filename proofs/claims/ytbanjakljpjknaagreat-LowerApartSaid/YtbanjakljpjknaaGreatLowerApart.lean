import Derived.Test.YtbanjakljpjknaaGreatRows
import Derived.Test.YtbanjakljpjknaaGreatA1
import Derived.Test.YtbanjakljpjknaaGreatAB
import Derived.Test.YtbanjakljpjknaaGreatPq
import Derived.Test.YtbanjakljpjknaaGreatM4
namespace Go.Proofs.YtbanjakljpjknaaGreat
open Go.ChangeShapes Go.WideShapes Go.ChangeAt Go.RowKit Go.V Go.X Go.Y
theorem lowerApart_own : ownKnob Tryz.prog.godebug = none := by kernel_rfl
theorem lowerApart_laidOut : laidOutB Tryz.prog = true := by kernel_rfl
set_option maxRecDepth 20000 in
theorem lowerApart_lifted (os : Os) (started : os.Started) (H : Type) (enc : TypeId × Value -> H) :
  ReturnsInHanded {} Tryz.checked os 4 .any (Rows.lowerApartSpec.pre6 enc Tryz.prog Tryz.f4 Rows.lowerApartRow.domain false) (Rows.lowerApartSpec.post enc Tryz.prog Tryz.f4 false true false false) := by
 refine returnsInHanded_of_change (C := Tryz.checked) lowerApart_own started (by kernel_rfl) Tryz.func4
  (ChangeSpec.witness6 (enc := enc) (C := Tryz.checked) false ⟨#[], #[.slice none 0 0], []⟩ 8 (by kernel_rfl) (by kernel_rfl) (by kernel_rfl) (by kernel_rfl)) ?_
 intro W base args ds gs before hval0 hW hcnd _
 have hval : ∀ (j : Nat) t v, Tryz.f4.params[j]? = some t -> args[j]? = some v -> Value.okWide Tryz.prog W .any base t v := hval0
 have hW' := hW
 obtain ⟨p, q, hA0, hV, rfl, hfz, hnd⟩ := hW
 have hA : DataW.TrodAll enc Tryz.prog W 0 (fun _ => true) true Tryz.f4.params.toList args.toList ds p := hA0
 rw [Tryz.params4] at hA hval
 obtain ⟨rfl, rfl⟩ := trodVars_none hV
 obtain ⟨v0, vs0, d0, ds0, p0, q0, e0, rfl, rfl, h0, r0⟩ := trodAll_cons hA
 obtain ⟨rfl, rfl, rfl⟩ := trodAll_nil r0
 obtain rfl : args = #[v0] := by cases args; simp_all
 obtain ⟨x0, hx0, gx0⟩ := openArg (T := TT) (ty := .list (.user 2)) packT (by intro i h; cases h) 8 (by kernel_rfl) (by kernel_rfl) (hval 0 22 v0 rfl rfl) h0
 refine (lawRet (x := x0) (vs := [v0]) qp_ok rfl (fun _ => rfl) (lowerApart_true x0) rfl ⟨hx0, trivial⟩).mono fun e W1 he => ?_
 obtain ⟨rfl, hc⟩ := retLaw he
 exact ⟨_, rfl, lawPost lowerApart_laidOut hW' rfl rfl (by kernel_rfl) Tryz.underlying4 (by kernel_rfl) hc⟩
theorem lowerApart_holds : Rows.LowerApartSaid :=
 OpenClaim.holds_of_wide 4 Tryz.f4 rfl rfl rfl rfl rfl rfl rfl ⟨rfl, rfl, rfl, rfl, rfl⟩ rfl rfl rfl rfl rfl (by kernel_rfl) Tryz.func4 (by kernel_rfl)
  (of_decide_eq_true (by kernel_rfl)) (by unfold Func.isWrapper; first | (rw [if_pos (by decide +kernel)]; kernel_rfl) | (rw [if_neg (by decide +kernel)]; exact ⟨rfl, rfl⟩))
  (fun os started H enc _ => lowerApart_lifted os started H enc)
end Go.Proofs.YtbanjakljpjknaaGreat
