import Derived.Test.YtbklhipicfimeaaProg
import Derived.Test.YtbklhipicfimeaaLb
import Derived.Test.YtbklhipicfimeaaOp
namespace Go.V
open Go.RowKit Go.Proofs Go.ChangeShapes Go.WideShapes Go.ChangeAt
theorem Do.open {H : Type} {enc : TypeId × Value → H} {W : World} (n : Nat) (cs : List Value) (x : DataW H × List MemPlace) (hl : cs.length = 4) (h : DataW.trod enc Try.prog W 0 (fun _ => true) true n 37 cs = some x) : ∃ y : Do, y.good ∧ cs = y.c := by
  obtain ⟨xs, m, rfl, _, _, hx, hf⟩ := DataW.trod_struct Try.underlying37 h
  match cs, hl with
  | [c0, c1, c2, c3], _ =>
    have hx2 : xs.length = 4 := hx
    obtain ⟨a0, rfl, ha0⟩ := fieldInt Try.underlying3 (by kernel_rfl) (hf 0 _ rfl) (by omega) rfl
    obtain ⟨a1, rfl, ha1⟩ := fieldInt Try.underlying3 (by kernel_rfl) (hf 1 _ rfl) (by omega) rfl
    obtain ⟨a2, rfl, ha2⟩ := fieldInt Try.underlying3 (by kernel_rfl) (hf 2 _ rfl) (by omega) rfl
    obtain ⟨a3, rfl, ha3⟩ := fieldInt Try.underlying2 (by kernel_rfl) (hf 3 _ rfl) (by omega) rfl
    exact ⟨⟨a0, a1, a2, a3⟩, ⟨ha0, ha1, ha2, ha3⟩, rfl⟩
end Go.V
