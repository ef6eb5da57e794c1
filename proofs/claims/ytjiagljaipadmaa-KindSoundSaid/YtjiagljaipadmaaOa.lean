import Derived.Test.YtjiagljaipadmaaProg
import Derived.Test.YtjiagljaipadmaaOp
import Derived.Test.YtjiagljaipadmaaSp
namespace Go.V
open Go.RowKit Go.Proofs Go.ChangeShapes Go.WideShapes Go.ChangeAt
def TSpan.ok (y : TSpan) : Prop := IU64 y.Lo ∧ IU64 y.Hi

set_option maxRecDepth 20000 in
theorem TSpan.openL {H : Type} {enc : TypeId × Value → H} {W : World} {n : Nat} {cs : List Value} {x : DataW H × List MemPlace} (hl : cs.length = 2) (h : DataW.trod enc Try.prog W 0 (fun _ => true) true n 25 cs = some x) : ∃ y : TSpan, cs = [.int .u64 y.Lo, .int .u64 y.Hi] ∧ TSpan.ok y := by
  obtain ⟨xs, m, rfl, _, _, hx, hf⟩ := DataW.trod_struct Try.underlying25 h
  match cs, hl with
  | [c0, c1], _ =>
    have hx2 : xs.length = 2 := hx
    obtain ⟨a0, rfl, ha0⟩ := fieldInt Try.underlying23 (by kernel_rfl) (hf 0 _ rfl) (by omega) rfl
    obtain ⟨a1, rfl, ha1⟩ := fieldInt Try.underlying23 (by kernel_rfl) (hf 1 _ rfl) (by omega) rfl
    exact ⟨⟨a0, a1⟩, rfl, ⟨bdU64 ha0, bdU64 ha1⟩⟩
set_option maxRecDepth 20000 in
theorem TSpan.openV {H : Type} {enc : TypeId × Value → H} {W : World} {r : Reach} {base : Nat} {v : Value} {d : DataW H} {p : List MemPlace} (hv : Value.okWide Try.prog W r base 25 v) (h : DataW.Trod enc Try.prog W 0 (fun _ => true) true 25 v d p) : ∃ y : TSpan, v = .agg #[.int .u64 y.Lo, .int .u64 y.Hi] ∧ TSpan.ok y := by
  obtain ⟨cs, rfl, hc⟩ := okWide_struct Try.underlying25 hv
  obtain ⟨m, hm⟩ := h
  have hsz : Try.prog.cellsOf 25 = 2 := by kernel_rfl
  obtain ⟨y, hy, hok⟩ := TSpan.openL (by simp [Value.cells]; omega) hm
  refine ⟨y, ?_, hok⟩
  have : cs = [.int .u64 y.Lo, .int .u64 y.Hi].toArray := by apply Array.toList_inj.1; simpa [Value.cells] using hy
  rw [this]
end Go.V
