/- An entry, seen by other numbers. Nothing here is about one program. -/
import Derived.Test.YthlhbjahlanneaaGreatX11
namespace Go.X
open Go.RowKit Go.V

section
variable {T : Tab} {w : World} {S : List Nat} {φ φ' : Nat → RA}
theorem EntR.ren {ρ : Nat → Nat} {i : Nat} {e : Ent T.U} (h : EntR T w S φ i e) {j : Nat} (hj : φ' j = φ i) (hc : ∀ k ∈ e.cellIds, φ' (ρ k) = φ k) : EntR T w S φ' j (e.ren ρ) := by
  cases e with
  | blk e cs => obtain ⟨g, c, a1, a2, a3, a4⟩ := h; exact ⟨g, c, by rw [hj]; exact a1, a2, a3, a4.ren T hc⟩
  | row e t xs => obtain ⟨B, vals, a1, a2, a3, a4, a5⟩ := h; simp only [Ent.ren, EntR, hj]; exact ⟨B, vals, a1, a2, a3, a4, a5⟩
  | map k es => obtain ⟨g, l, c, a1, a2, a3, a4⟩ := h; exact ⟨g, l, c, by rw [hj]; exact a1, a2, a3, a4.ren T hc⟩
  | tmap k t m => obtain ⟨g, l, c, a1, a2⟩ := h; exact ⟨g, l, c, by rw [hj]; exact a1, a2⟩
  | gone => trivial
end
end Go.X
