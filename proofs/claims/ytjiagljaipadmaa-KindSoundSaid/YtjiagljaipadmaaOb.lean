import Derived.Test.YtjiagljaipadmaaProg
import Derived.Test.YtjiagljaipadmaaOa
import Derived.Test.YtjiagljaipadmaaKa
namespace Go.V
open Go.RowKit Go.Proofs Go.ChangeShapes Go.WideShapes Go.ChangeAt
def TKnown.ok (y : TKnown) : Prop := IU8 y.Kind ∧ IU64 y.In.Lo ∧ IU64 y.In.Hi

set_option maxRecDepth 20000 in
theorem TKnown.openL {H : Type} {enc : TypeId × Value → H} {W : World} {n : Nat} {cs : List Value} {x : DataW H × List MemPlace} (hl : cs.length = 3) (h : DataW.trod enc Try.prog W 0 (fun _ => true) true n 56 cs = some x) : ∃ y : TKnown, cs = [.int .u8 y.Kind, .int .u64 y.In.Lo, .int .u64 y.In.Hi] ∧ TKnown.ok y := by
  obtain ⟨xs, m, rfl, _, _, hx, hf⟩ := DataW.trod_struct Try.underlying56 h
  match cs, hl with
  | [c0, c1, c2], _ =>
    have hx2 : xs.length = 2 := hx
    obtain ⟨a0, rfl, ha0⟩ := fieldInt Try.underlying54 (by kernel_rfl) (hf 0 _ rfl) (by omega) rfl
    have h1 := hf 1 _ rfl
    rw [List.getElem?_eq_getElem (by omega)] at h1
    obtain ⟨a1, e1, ha1⟩ := TSpan.openL (cs := [c1, c2]) rfl h1
    simp only [List.cons.injEq, and_true] at e1
    obtain ⟨rfl, rfl⟩ := e1
    exact ⟨⟨a0, a1⟩, rfl, ⟨bdU8 ha0, ha1⟩⟩
set_option maxRecDepth 20000 in
theorem TKnown.openV {H : Type} {enc : TypeId × Value → H} {W : World} {r : Reach} {base : Nat} {v : Value} {d : DataW H} {p : List MemPlace} (hv : Value.okWide Try.prog W r base 56 v) (h : DataW.Trod enc Try.prog W 0 (fun _ => true) true 56 v d p) : ∃ y : TKnown, v = .agg #[.int .u8 y.Kind, .int .u64 y.In.Lo, .int .u64 y.In.Hi] ∧ TKnown.ok y := by
  obtain ⟨cs, rfl, hc⟩ := okWide_struct Try.underlying56 hv
  obtain ⟨m, hm⟩ := h
  have hsz : Try.prog.cellsOf 56 = 3 := by kernel_rfl
  obtain ⟨y, hy, hok⟩ := TKnown.openL (by simp [Value.cells]; omega) hm
  refine ⟨y, ?_, hok⟩
  have : cs = [.int .u8 y.Kind, .int .u64 y.In.Lo, .int .u64 y.In.Hi].toArray := by apply Array.toList_inj.1; simpa [Value.cells] using hy
  rw [this]
end Go.V
