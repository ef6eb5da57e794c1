/- An entry, seen by other numbers. Nothing here is about one program. -/
import Derived.Test.YtjjlcenmifcaeaaX11
namespace Go.X
open Go.RowKit Go.V

section
variable {T : Tab} {w : World} {S : List Nat} {φ φ' : Nat → RA}
def Ent.plain {U : Nat → Type} : Ent U → Bool | .drow _ _ _ _ _ => false | .pmap _ _ _ _ _ => false | _ => true
/-- all but families: their other blocks don't matter. -/
theorem EntR.renS {ρ : Nat → Nat} {i : Nat} {e : Ent T.U} (h : EntR T w S φ i e) {j : Nat} (hj : RSame (φ' j) (φ i)) (hx : e.plain = true ∨ (φ' j).xs = (φ i).xs) (hc : ∀ k ∈ e.cellIds, RSame (φ' (ρ k)) (φ k)) : EntR T w S φ' j (e.ren ρ) := by
  obtain ⟨r1, r2, r3⟩ := hj
  cases e with
  | blk e cs => obtain ⟨g, c, a1, a2, a3, a4⟩ := h; exact ⟨g, c, by rw [r1]; exact a1, a2, a3, a4.renS T hc⟩
  | row e t xs => obtain ⟨B, vals, a1, a2, a3, a4, a5⟩ := h; simp only [Ent.ren, EntR, r1, r2, r3]; exact ⟨B, vals, a1, a2, a3, a4, a5⟩
  | map k es => obtain ⟨g, l, c, a1, a2, a3, a4, a5⟩ := h; exact ⟨g, l, c, by rw [r1]; exact a1, a2, a3, a4.renS T hc, a5⟩
  | tmap k t m => obtain ⟨g, l, c, a1, a2⟩ := h; exact ⟨g, l, c, by rw [r1]; exact a1, a2⟩
  | drow e d fe xs op =>
    have hj : φ' j = φ i := by
      replace hx := hx.resolve_left (by simp [Ent.plain])
      generalize φ' j = a at *; generalize φ i = b at *
      cases a; cases b; simp_all
    obtain ⟨B, vals, a1, a2, a3, a4, a5⟩ := h; simp only [Ent.ren, EntR, hj]; exact ⟨B, vals, a1, a2, a3, a4, a5.renS T hc⟩
  | pmap k be d m op =>
    have hj : φ' j = φ i := by
      replace hx := hx.resolve_left (by simp [Ent.plain])
      generalize φ' j = a at *; generalize φ i = b at *
      cases a; cases b; simp_all
    obtain ⟨g, l, c, bs, a1, a2, a3, a4, a5⟩ := h; simp only [Ent.ren, EntR, hj]; exact ⟨g, l, c, bs, a1, a2, a3, a4.renS T hc, a5⟩
  | gone => trivial
theorem EntR.ren {ρ : Nat → Nat} {i : Nat} {e : Ent T.U} (h : EntR T w S φ i e) {j : Nat} (hj : φ' j = φ i) (hc : ∀ k ∈ e.cellIds, φ' (ρ k) = φ k) : EntR T w S φ' j (e.ren ρ) := by
  cases e with
  | blk e cs => obtain ⟨g, c, a1, a2, a3, a4⟩ := h; exact ⟨g, c, by rw [hj]; exact a1, a2, a3, a4.ren T hc⟩
  | row e t xs => obtain ⟨B, vals, a1, a2, a3, a4, a5⟩ := h; simp only [Ent.ren, EntR, hj]; exact ⟨B, vals, a1, a2, a3, a4, a5⟩
  | map k es => obtain ⟨g, l, c, a1, a2, a3, a4, a5⟩ := h; exact ⟨g, l, c, by rw [hj]; exact a1, a2, a3, a4.ren T hc, a5⟩
  | tmap k t m => obtain ⟨g, l, c, a1, a2⟩ := h; exact ⟨g, l, c, by rw [hj]; exact a1, a2⟩
  | drow e d fe xs op => obtain ⟨B, vals, a1, a2, a3, a4, a5⟩ := h; simp only [Ent.ren, EntR, hj]; exact ⟨B, vals, a1, a2, a3, a4, a5.renS T fun k hk => RSame.of (hc k hk)⟩
  | pmap k be d m op => obtain ⟨g, l, c, bs, a1, a2, a3, a4, a5⟩ := h; simp only [Ent.ren, EntR, hj]; exact ⟨g, l, c, bs, a1, a2, a3, a4.renS T fun k hk => RSame.of (hc k hk), a5⟩
  | gone => trivial
end
end Go.X
