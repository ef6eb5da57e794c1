/- Texts put together. -/
import Derived.Test.YtnldbfeakocbnaaGreatIa
import Derived.Test.YtnldbfeakocbnaaGreatM1
import Derived.Test.YtnldbfeakocbnaaGreatIb
import Derived.Test.YtnldbfeakocbnaaGreatIc
/- What numbers' functions compute: the plain functions. -/
namespace Go.Y
open Go.RowKit Go.V Go.X Go.Proofs

theorem tmod_pos {x m : Int} (hx : 0 ≤ x) (_hm : 0 < m) : ¬ x.tmod m < 0 := by
  have := Int.tmod_nonneg m hx; omega
theorem do32 (op a b : Int) (ha : 0 ≤ b) : X.alu_do BIG op 32 a b = some (alu_do_u32 op 32 a b) := by
  obtain ⟨n, e⟩ : ∃ n : Nat, (BIG : Nat) = n + 1 := ⟨999999999, rfl⟩
  have hj : ∀ c : Bool, c = (((op == 4) || (op == 5)) && (b == 0)) → X.alu_do_J0 (n + 1) op c 32 a b = some (alu_do_u32 op 32 a b) := fun c hc => by
    rw [X.alu_do_J0_eq, hc]
    unfold alu_do_u32
    cases hcc : (((op == (4 : Int)) || (op == (5 : Int))) && (b == (0 : Int))) with
    | true => rfl
    | false =>
      rw [forkB_false, if_neg (show ¬ (false = true) by decide)]
      by_cases h1 : op = 1
      · subst h1
        rw [if_pos (rfl : (1 : Int) = 1)]
        rw [if_pos (by decide : (((1 : Int) == 1) = true))]
        rw [X.alu_do_i1_g1_eq, obind_of]; rfl
      by_cases h2 : op = 2
      · subst h2
        rw [if_neg (by decide : ¬ ((2 : Int) = 1)), if_pos (rfl : (2 : Int) = 2)]
        rw [if_neg (by decide : ¬ (((2 : Int) == 1) = true)), if_pos (by decide : (((2 : Int) == 2) = true))]
        rw [X.alu_do_i2_g1_eq, obind_of]; rfl
      by_cases h3 : op = 3
      · subst h3
        rw [if_neg (by decide : ¬ ((3 : Int) = 1)), if_neg (by decide : ¬ ((3 : Int) = 2)), if_pos (rfl : (3 : Int) = 3)]
        rw [if_neg (by decide : ¬ (((3 : Int) == 1) = true)), if_neg (by decide : ¬ (((3 : Int) == 2) = true)), if_pos (by decide : (((3 : Int) == 3) = true))]
        rw [X.alu_do_i3_g1_eq, obind_of]; rfl
      by_cases h4 : op = 4
      · subst h4
        rw [if_neg (by decide : ¬ ((4 : Int) = 1)), if_neg (by decide : ¬ ((4 : Int) = 2)), if_neg (by decide : ¬ ((4 : Int) = 3)), if_pos (rfl : (4 : Int) = 4)]
        rw [if_neg (by decide : ¬ (((4 : Int) == 1) = true)), if_neg (by decide : ¬ (((4 : Int) == 2) = true)), if_neg (by decide : ¬ (((4 : Int) == 3) = true)), if_pos (by decide : (((4 : Int) == 4) = true))]
        rw [X.alu_do_i4_g1_eq, if_neg (fun h => by subst h; exact absurd hcc (by decide)), obind_of]; rfl
      by_cases h5 : op = 5
      · subst h5
        rw [if_neg (by decide : ¬ ((5 : Int) = 1)), if_neg (by decide : ¬ ((5 : Int) = 2)), if_neg (by decide : ¬ ((5 : Int) = 3)), if_neg (by decide : ¬ ((5 : Int) = 4)), if_pos (rfl : (5 : Int) = 5)]
        rw [if_neg (by decide : ¬ (((5 : Int) == 1) = true)), if_neg (by decide : ¬ (((5 : Int) == 2) = true)), if_neg (by decide : ¬ (((5 : Int) == 3) = true)), if_neg (by decide : ¬ (((5 : Int) == 4) = true)), if_pos (by decide : (((5 : Int) == 5) = true))]
        rw [X.alu_do_i5_g1_eq, if_neg (fun h => by subst h; exact absurd hcc (by decide)), obind_of]; rfl
      by_cases h6 : op = 6
      · subst h6
        rw [if_neg (by decide : ¬ ((6 : Int) = 1)), if_neg (by decide : ¬ ((6 : Int) = 2)), if_neg (by decide : ¬ ((6 : Int) = 3)), if_neg (by decide : ¬ ((6 : Int) = 4)), if_neg (by decide : ¬ ((6 : Int) = 5)), if_pos (rfl : (6 : Int) = 6)]
        rw [if_neg (by decide : ¬ (((6 : Int) == 1) = true)), if_neg (by decide : ¬ (((6 : Int) == 2) = true)), if_neg (by decide : ¬ (((6 : Int) == 3) = true)), if_neg (by decide : ¬ (((6 : Int) == 4) = true)), if_neg (by decide : ¬ (((6 : Int) == 5) = true)), if_pos (by decide : (((6 : Int) == 6) = true))]
        rw [X.alu_do_i6_g1_eq, obind_of]; rfl
      by_cases h7 : op = 7
      · subst h7
        rw [if_neg (by decide : ¬ ((7 : Int) = 1)), if_neg (by decide : ¬ ((7 : Int) = 2)), if_neg (by decide : ¬ ((7 : Int) = 3)), if_neg (by decide : ¬ ((7 : Int) = 4)), if_neg (by decide : ¬ ((7 : Int) = 5)), if_neg (by decide : ¬ ((7 : Int) = 6)), if_pos (rfl : (7 : Int) = 7)]
        rw [if_neg (by decide : ¬ (((7 : Int) == 1) = true)), if_neg (by decide : ¬ (((7 : Int) == 2) = true)), if_neg (by decide : ¬ (((7 : Int) == 3) = true)), if_neg (by decide : ¬ (((7 : Int) == 4) = true)), if_neg (by decide : ¬ (((7 : Int) == 5) = true)), if_neg (by decide : ¬ (((7 : Int) == 6) = true)), if_pos (by decide : (((7 : Int) == 7) = true))]
        rw [X.alu_do_i7_g1_eq, obind_of]; rfl
      by_cases h8 : op = 8
      · subst h8
        rw [if_neg (by decide : ¬ ((8 : Int) = 1)), if_neg (by decide : ¬ ((8 : Int) = 2)), if_neg (by decide : ¬ ((8 : Int) = 3)), if_neg (by decide : ¬ ((8 : Int) = 4)), if_neg (by decide : ¬ ((8 : Int) = 5)), if_neg (by decide : ¬ ((8 : Int) = 6)), if_neg (by decide : ¬ ((8 : Int) = 7)), if_pos (rfl : (8 : Int) = 8)]
        rw [if_neg (by decide : ¬ (((8 : Int) == 1) = true)), if_neg (by decide : ¬ (((8 : Int) == 2) = true)), if_neg (by decide : ¬ (((8 : Int) == 3) = true)), if_neg (by decide : ¬ (((8 : Int) == 4) = true)), if_neg (by decide : ¬ (((8 : Int) == 5) = true)), if_neg (by decide : ¬ (((8 : Int) == 6) = true)), if_neg (by decide : ¬ (((8 : Int) == 7) = true)), if_pos (by decide : (((8 : Int) == 8) = true))]
        rw [X.alu_do_i8_g1_eq, obind_of]; rfl
      by_cases h9 : op = 9
      · subst h9
        rw [if_neg (by decide : ¬ ((9 : Int) = 1)), if_neg (by decide : ¬ ((9 : Int) = 2)), if_neg (by decide : ¬ ((9 : Int) = 3)), if_neg (by decide : ¬ ((9 : Int) = 4)), if_neg (by decide : ¬ ((9 : Int) = 5)), if_neg (by decide : ¬ ((9 : Int) = 6)), if_neg (by decide : ¬ ((9 : Int) = 7)), if_neg (by decide : ¬ ((9 : Int) = 8)), if_pos (rfl : (9 : Int) = 9)]
        rw [if_neg (by decide : ¬ (((9 : Int) == 1) = true)), if_neg (by decide : ¬ (((9 : Int) == 2) = true)), if_neg (by decide : ¬ (((9 : Int) == 3) = true)), if_neg (by decide : ¬ (((9 : Int) == 4) = true)), if_neg (by decide : ¬ (((9 : Int) == 5) = true)), if_neg (by decide : ¬ (((9 : Int) == 6) = true)), if_neg (by decide : ¬ (((9 : Int) == 7) = true)), if_neg (by decide : ¬ (((9 : Int) == 8) = true)), if_pos (by decide : (((9 : Int) == 9) = true))]
        rw [X.alu_do_i9_g1_eq, if_neg (by decide), if_neg (tmod_pos ha (by decide)), obind_of]; rfl
      by_cases h10 : op = 10
      · subst h10
        rw [if_neg (by decide : ¬ ((10 : Int) = 1)), if_neg (by decide : ¬ ((10 : Int) = 2)), if_neg (by decide : ¬ ((10 : Int) = 3)), if_neg (by decide : ¬ ((10 : Int) = 4)), if_neg (by decide : ¬ ((10 : Int) = 5)), if_neg (by decide : ¬ ((10 : Int) = 6)), if_neg (by decide : ¬ ((10 : Int) = 7)), if_neg (by decide : ¬ ((10 : Int) = 8)), if_neg (by decide : ¬ ((10 : Int) = 9)), if_pos (rfl : (10 : Int) = 10)]
        rw [if_neg (by decide : ¬ (((10 : Int) == 1) = true)), if_neg (by decide : ¬ (((10 : Int) == 2) = true)), if_neg (by decide : ¬ (((10 : Int) == 3) = true)), if_neg (by decide : ¬ (((10 : Int) == 4) = true)), if_neg (by decide : ¬ (((10 : Int) == 5) = true)), if_neg (by decide : ¬ (((10 : Int) == 6) = true)), if_neg (by decide : ¬ (((10 : Int) == 7) = true)), if_neg (by decide : ¬ (((10 : Int) == 8) = true)), if_neg (by decide : ¬ (((10 : Int) == 9) = true)), if_pos (by decide : (((10 : Int) == 10) = true))]
        rw [X.alu_do_i10_g1_eq, if_neg (by decide), if_neg (tmod_pos ha (by decide)), obind_of]; rfl
      by_cases h11 : op = 11
      · subst h11
        rw [if_neg (by decide : ¬ ((11 : Int) = 1)), if_neg (by decide : ¬ ((11 : Int) = 2)), if_neg (by decide : ¬ ((11 : Int) = 3)), if_neg (by decide : ¬ ((11 : Int) = 4)), if_neg (by decide : ¬ ((11 : Int) = 5)), if_neg (by decide : ¬ ((11 : Int) = 6)), if_neg (by decide : ¬ ((11 : Int) = 7)), if_neg (by decide : ¬ ((11 : Int) = 8)), if_neg (by decide : ¬ ((11 : Int) = 9)), if_neg (by decide : ¬ ((11 : Int) = 10)), if_pos (rfl : (11 : Int) = 11)]
        rw [if_neg (by decide : ¬ (((11 : Int) == 1) = true)), if_neg (by decide : ¬ (((11 : Int) == 2) = true)), if_neg (by decide : ¬ (((11 : Int) == 3) = true)), if_neg (by decide : ¬ (((11 : Int) == 4) = true)), if_neg (by decide : ¬ (((11 : Int) == 5) = true)), if_neg (by decide : ¬ (((11 : Int) == 6) = true)), if_neg (by decide : ¬ (((11 : Int) == 7) = true)), if_neg (by decide : ¬ (((11 : Int) == 8) = true)), if_neg (by decide : ¬ (((11 : Int) == 9) = true)), if_neg (by decide : ¬ (((11 : Int) == 10) = true)), if_pos (by decide : (((11 : Int) == 11) = true))]
        rw [X.alu_do_i11_g1_eq, if_neg (by decide), if_neg (tmod_pos ha (by decide)), obind_of]; rfl
      by_cases h12 : op = 12
      · subst h12
        rw [if_neg (by decide : ¬ ((12 : Int) = 1)), if_neg (by decide : ¬ ((12 : Int) = 2)), if_neg (by decide : ¬ ((12 : Int) = 3)), if_neg (by decide : ¬ ((12 : Int) = 4)), if_neg (by decide : ¬ ((12 : Int) = 5)), if_neg (by decide : ¬ ((12 : Int) = 6)), if_neg (by decide : ¬ ((12 : Int) = 7)), if_neg (by decide : ¬ ((12 : Int) = 8)), if_neg (by decide : ¬ ((12 : Int) = 9)), if_neg (by decide : ¬ ((12 : Int) = 10)), if_neg (by decide : ¬ ((12 : Int) = 11)), if_pos (rfl : (12 : Int) = 12)]
        rw [if_neg (by decide : ¬ (((12 : Int) == 1) = true)), if_neg (by decide : ¬ (((12 : Int) == 2) = true)), if_neg (by decide : ¬ (((12 : Int) == 3) = true)), if_neg (by decide : ¬ (((12 : Int) == 4) = true)), if_neg (by decide : ¬ (((12 : Int) == 5) = true)), if_neg (by decide : ¬ (((12 : Int) == 6) = true)), if_neg (by decide : ¬ (((12 : Int) == 7) = true)), if_neg (by decide : ¬ (((12 : Int) == 8) = true)), if_neg (by decide : ¬ (((12 : Int) == 9) = true)), if_neg (by decide : ¬ (((12 : Int) == 10) = true)), if_neg (by decide : ¬ (((12 : Int) == 11) = true)), if_pos (by decide : (((12 : Int) == 12) = true))]
        rw [X.alu_do_i12_g1_eq, obind_of]; rfl
      by_cases h13 : op = 13
      · subst h13
        rw [if_neg (by decide : ¬ ((13 : Int) = 1)), if_neg (by decide : ¬ ((13 : Int) = 2)), if_neg (by decide : ¬ ((13 : Int) = 3)), if_neg (by decide : ¬ ((13 : Int) = 4)), if_neg (by decide : ¬ ((13 : Int) = 5)), if_neg (by decide : ¬ ((13 : Int) = 6)), if_neg (by decide : ¬ ((13 : Int) = 7)), if_neg (by decide : ¬ ((13 : Int) = 8)), if_neg (by decide : ¬ ((13 : Int) = 9)), if_neg (by decide : ¬ ((13 : Int) = 10)), if_neg (by decide : ¬ ((13 : Int) = 11)), if_neg (by decide : ¬ ((13 : Int) = 12)), if_pos (rfl : (13 : Int) = 13)]
        rw [if_neg (by decide : ¬ (((13 : Int) == 1) = true)), if_neg (by decide : ¬ (((13 : Int) == 2) = true)), if_neg (by decide : ¬ (((13 : Int) == 3) = true)), if_neg (by decide : ¬ (((13 : Int) == 4) = true)), if_neg (by decide : ¬ (((13 : Int) == 5) = true)), if_neg (by decide : ¬ (((13 : Int) == 6) = true)), if_neg (by decide : ¬ (((13 : Int) == 7) = true)), if_neg (by decide : ¬ (((13 : Int) == 8) = true)), if_neg (by decide : ¬ (((13 : Int) == 9) = true)), if_neg (by decide : ¬ (((13 : Int) == 10) = true)), if_neg (by decide : ¬ (((13 : Int) == 11) = true)), if_neg (by decide : ¬ (((13 : Int) == 12) = true)), if_pos (by decide : (((13 : Int) == 13) = true))]
        rw [X.alu_do_i13_g1_eq, obind_of]; rfl
      rw [if_neg h1, if_neg h2, if_neg h3, if_neg h4, if_neg h5, if_neg h6, if_neg h7, if_neg h8, if_neg h9, if_neg h10, if_neg h11, if_neg h12, if_neg h13]
      rw [if_neg (by simpa using h1), if_neg (by simpa using h2), if_neg (by simpa using h3), if_neg (by simpa using h4), if_neg (by simpa using h5), if_neg (by simpa using h6), if_neg (by simpa using h7), if_neg (by simpa using h8), if_neg (by simpa using h9), if_neg (by simpa using h10), if_neg (by simpa using h11), if_neg (by simpa using h12), if_neg (by simpa using h13)]
  rw [X.alu_do_eq, e]
  cases h4 : (op == (4 : Int)) with
  | true => rw [forkB_true, hj _ (by rw [h4]; rfl)]
  | false =>
    rw [forkB_false]
    cases h5 : (op == (5 : Int)) with
    | true => rw [forkB_true, hj _ (by rw [h4, h5]; rfl)]
    | false => rw [forkB_false, hj _ (by rw [h4, h5]; rfl)]
theorem do64 (op a b : Int) (ha : 0 ≤ b) : X.alu_do_i14 BIG op 64 a b = some (alu_do_u64 op 64 a b) := by
  obtain ⟨n, e⟩ : ∃ n : Nat, (BIG : Nat) = n + 1 := ⟨999999999, rfl⟩
  have hj : ∀ c : Bool, c = (((op == 4) || (op == 5)) && (b == 0)) → X.alu_do_i14_J0 (n + 1) op c 64 a b = some (alu_do_u64 op 64 a b) := fun c hc => by
    rw [X.alu_do_i14_J0_eq, hc]
    unfold alu_do_u64
    cases hcc : (((op == (4 : Int)) || (op == (5 : Int))) && (b == (0 : Int))) with
    | true => rfl
    | false =>
      rw [forkB_false, if_neg (show ¬ (false = true) by decide)]
      by_cases h1 : op = 1
      · subst h1
        rw [if_pos (rfl : (1 : Int) = 1)]
        rw [if_pos (by decide : (((1 : Int) == 1) = true))]
        rw [X.alu_do_i15_g1_eq, obind_of]; rfl
      by_cases h2 : op = 2
      · subst h2
        rw [if_neg (by decide : ¬ ((2 : Int) = 1)), if_pos (rfl : (2 : Int) = 2)]
        rw [if_neg (by decide : ¬ (((2 : Int) == 1) = true)), if_pos (by decide : (((2 : Int) == 2) = true))]
        rw [X.alu_do_i16_g1_eq, obind_of]; rfl
      by_cases h3 : op = 3
      · subst h3
        rw [if_neg (by decide : ¬ ((3 : Int) = 1)), if_neg (by decide : ¬ ((3 : Int) = 2)), if_pos (rfl : (3 : Int) = 3)]
        rw [if_neg (by decide : ¬ (((3 : Int) == 1) = true)), if_neg (by decide : ¬ (((3 : Int) == 2) = true)), if_pos (by decide : (((3 : Int) == 3) = true))]
        rw [X.alu_do_i17_g1_eq, obind_of]; rfl
      by_cases h4 : op = 4
      · subst h4
        rw [if_neg (by decide : ¬ ((4 : Int) = 1)), if_neg (by decide : ¬ ((4 : Int) = 2)), if_neg (by decide : ¬ ((4 : Int) = 3)), if_pos (rfl : (4 : Int) = 4)]
        rw [if_neg (by decide : ¬ (((4 : Int) == 1) = true)), if_neg (by decide : ¬ (((4 : Int) == 2) = true)), if_neg (by decide : ¬ (((4 : Int) == 3) = true)), if_pos (by decide : (((4 : Int) == 4) = true))]
        rw [X.alu_do_i18_g1_eq, if_neg (fun h => by subst h; exact absurd hcc (by decide)), obind_of]; rfl
      by_cases h5 : op = 5
      · subst h5
        rw [if_neg (by decide : ¬ ((5 : Int) = 1)), if_neg (by decide : ¬ ((5 : Int) = 2)), if_neg (by decide : ¬ ((5 : Int) = 3)), if_neg (by decide : ¬ ((5 : Int) = 4)), if_pos (rfl : (5 : Int) = 5)]
        rw [if_neg (by decide : ¬ (((5 : Int) == 1) = true)), if_neg (by decide : ¬ (((5 : Int) == 2) = true)), if_neg (by decide : ¬ (((5 : Int) == 3) = true)), if_neg (by decide : ¬ (((5 : Int) == 4) = true)), if_pos (by decide : (((5 : Int) == 5) = true))]
        rw [X.alu_do_i19_g1_eq, if_neg (fun h => by subst h; exact absurd hcc (by decide)), obind_of]; rfl
      by_cases h6 : op = 6
      · subst h6
        rw [if_neg (by decide : ¬ ((6 : Int) = 1)), if_neg (by decide : ¬ ((6 : Int) = 2)), if_neg (by decide : ¬ ((6 : Int) = 3)), if_neg (by decide : ¬ ((6 : Int) = 4)), if_neg (by decide : ¬ ((6 : Int) = 5)), if_pos (rfl : (6 : Int) = 6)]
        rw [if_neg (by decide : ¬ (((6 : Int) == 1) = true)), if_neg (by decide : ¬ (((6 : Int) == 2) = true)), if_neg (by decide : ¬ (((6 : Int) == 3) = true)), if_neg (by decide : ¬ (((6 : Int) == 4) = true)), if_neg (by decide : ¬ (((6 : Int) == 5) = true)), if_pos (by decide : (((6 : Int) == 6) = true))]
        rw [X.alu_do_i20_g1_eq, obind_of]; rfl
      by_cases h7 : op = 7
      · subst h7
        rw [if_neg (by decide : ¬ ((7 : Int) = 1)), if_neg (by decide : ¬ ((7 : Int) = 2)), if_neg (by decide : ¬ ((7 : Int) = 3)), if_neg (by decide : ¬ ((7 : Int) = 4)), if_neg (by decide : ¬ ((7 : Int) = 5)), if_neg (by decide : ¬ ((7 : Int) = 6)), if_pos (rfl : (7 : Int) = 7)]
        rw [if_neg (by decide : ¬ (((7 : Int) == 1) = true)), if_neg (by decide : ¬ (((7 : Int) == 2) = true)), if_neg (by decide : ¬ (((7 : Int) == 3) = true)), if_neg (by decide : ¬ (((7 : Int) == 4) = true)), if_neg (by decide : ¬ (((7 : Int) == 5) = true)), if_neg (by decide : ¬ (((7 : Int) == 6) = true)), if_pos (by decide : (((7 : Int) == 7) = true))]
        rw [X.alu_do_i21_g1_eq, obind_of]; rfl
      by_cases h8 : op = 8
      · subst h8
        rw [if_neg (by decide : ¬ ((8 : Int) = 1)), if_neg (by decide : ¬ ((8 : Int) = 2)), if_neg (by decide : ¬ ((8 : Int) = 3)), if_neg (by decide : ¬ ((8 : Int) = 4)), if_neg (by decide : ¬ ((8 : Int) = 5)), if_neg (by decide : ¬ ((8 : Int) = 6)), if_neg (by decide : ¬ ((8 : Int) = 7)), if_pos (rfl : (8 : Int) = 8)]
        rw [if_neg (by decide : ¬ (((8 : Int) == 1) = true)), if_neg (by decide : ¬ (((8 : Int) == 2) = true)), if_neg (by decide : ¬ (((8 : Int) == 3) = true)), if_neg (by decide : ¬ (((8 : Int) == 4) = true)), if_neg (by decide : ¬ (((8 : Int) == 5) = true)), if_neg (by decide : ¬ (((8 : Int) == 6) = true)), if_neg (by decide : ¬ (((8 : Int) == 7) = true)), if_pos (by decide : (((8 : Int) == 8) = true))]
        rw [X.alu_do_i22_g1_eq, obind_of]; rfl
      by_cases h9 : op = 9
      · subst h9
        rw [if_neg (by decide : ¬ ((9 : Int) = 1)), if_neg (by decide : ¬ ((9 : Int) = 2)), if_neg (by decide : ¬ ((9 : Int) = 3)), if_neg (by decide : ¬ ((9 : Int) = 4)), if_neg (by decide : ¬ ((9 : Int) = 5)), if_neg (by decide : ¬ ((9 : Int) = 6)), if_neg (by decide : ¬ ((9 : Int) = 7)), if_neg (by decide : ¬ ((9 : Int) = 8)), if_pos (rfl : (9 : Int) = 9)]
        rw [if_neg (by decide : ¬ (((9 : Int) == 1) = true)), if_neg (by decide : ¬ (((9 : Int) == 2) = true)), if_neg (by decide : ¬ (((9 : Int) == 3) = true)), if_neg (by decide : ¬ (((9 : Int) == 4) = true)), if_neg (by decide : ¬ (((9 : Int) == 5) = true)), if_neg (by decide : ¬ (((9 : Int) == 6) = true)), if_neg (by decide : ¬ (((9 : Int) == 7) = true)), if_neg (by decide : ¬ (((9 : Int) == 8) = true)), if_pos (by decide : (((9 : Int) == 9) = true))]
        rw [X.alu_do_i23_g1_eq, if_neg (by decide), if_neg (tmod_pos ha (by decide)), obind_of]; rfl
      by_cases h10 : op = 10
      · subst h10
        rw [if_neg (by decide : ¬ ((10 : Int) = 1)), if_neg (by decide : ¬ ((10 : Int) = 2)), if_neg (by decide : ¬ ((10 : Int) = 3)), if_neg (by decide : ¬ ((10 : Int) = 4)), if_neg (by decide : ¬ ((10 : Int) = 5)), if_neg (by decide : ¬ ((10 : Int) = 6)), if_neg (by decide : ¬ ((10 : Int) = 7)), if_neg (by decide : ¬ ((10 : Int) = 8)), if_neg (by decide : ¬ ((10 : Int) = 9)), if_pos (rfl : (10 : Int) = 10)]
        rw [if_neg (by decide : ¬ (((10 : Int) == 1) = true)), if_neg (by decide : ¬ (((10 : Int) == 2) = true)), if_neg (by decide : ¬ (((10 : Int) == 3) = true)), if_neg (by decide : ¬ (((10 : Int) == 4) = true)), if_neg (by decide : ¬ (((10 : Int) == 5) = true)), if_neg (by decide : ¬ (((10 : Int) == 6) = true)), if_neg (by decide : ¬ (((10 : Int) == 7) = true)), if_neg (by decide : ¬ (((10 : Int) == 8) = true)), if_neg (by decide : ¬ (((10 : Int) == 9) = true)), if_pos (by decide : (((10 : Int) == 10) = true))]
        rw [X.alu_do_i24_g1_eq, if_neg (by decide), if_neg (tmod_pos ha (by decide)), obind_of]; rfl
      by_cases h11 : op = 11
      · subst h11
        rw [if_neg (by decide : ¬ ((11 : Int) = 1)), if_neg (by decide : ¬ ((11 : Int) = 2)), if_neg (by decide : ¬ ((11 : Int) = 3)), if_neg (by decide : ¬ ((11 : Int) = 4)), if_neg (by decide : ¬ ((11 : Int) = 5)), if_neg (by decide : ¬ ((11 : Int) = 6)), if_neg (by decide : ¬ ((11 : Int) = 7)), if_neg (by decide : ¬ ((11 : Int) = 8)), if_neg (by decide : ¬ ((11 : Int) = 9)), if_neg (by decide : ¬ ((11 : Int) = 10)), if_pos (rfl : (11 : Int) = 11)]
        rw [if_neg (by decide : ¬ (((11 : Int) == 1) = true)), if_neg (by decide : ¬ (((11 : Int) == 2) = true)), if_neg (by decide : ¬ (((11 : Int) == 3) = true)), if_neg (by decide : ¬ (((11 : Int) == 4) = true)), if_neg (by decide : ¬ (((11 : Int) == 5) = true)), if_neg (by decide : ¬ (((11 : Int) == 6) = true)), if_neg (by decide : ¬ (((11 : Int) == 7) = true)), if_neg (by decide : ¬ (((11 : Int) == 8) = true)), if_neg (by decide : ¬ (((11 : Int) == 9) = true)), if_neg (by decide : ¬ (((11 : Int) == 10) = true)), if_pos (by decide : (((11 : Int) == 11) = true))]
        rw [X.alu_do_i25_g1_eq, if_neg (by decide), if_neg (tmod_pos ha (by decide)), obind_of]; rfl
      by_cases h12 : op = 12
      · subst h12
        rw [if_neg (by decide : ¬ ((12 : Int) = 1)), if_neg (by decide : ¬ ((12 : Int) = 2)), if_neg (by decide : ¬ ((12 : Int) = 3)), if_neg (by decide : ¬ ((12 : Int) = 4)), if_neg (by decide : ¬ ((12 : Int) = 5)), if_neg (by decide : ¬ ((12 : Int) = 6)), if_neg (by decide : ¬ ((12 : Int) = 7)), if_neg (by decide : ¬ ((12 : Int) = 8)), if_neg (by decide : ¬ ((12 : Int) = 9)), if_neg (by decide : ¬ ((12 : Int) = 10)), if_neg (by decide : ¬ ((12 : Int) = 11)), if_pos (rfl : (12 : Int) = 12)]
        rw [if_neg (by decide : ¬ (((12 : Int) == 1) = true)), if_neg (by decide : ¬ (((12 : Int) == 2) = true)), if_neg (by decide : ¬ (((12 : Int) == 3) = true)), if_neg (by decide : ¬ (((12 : Int) == 4) = true)), if_neg (by decide : ¬ (((12 : Int) == 5) = true)), if_neg (by decide : ¬ (((12 : Int) == 6) = true)), if_neg (by decide : ¬ (((12 : Int) == 7) = true)), if_neg (by decide : ¬ (((12 : Int) == 8) = true)), if_neg (by decide : ¬ (((12 : Int) == 9) = true)), if_neg (by decide : ¬ (((12 : Int) == 10) = true)), if_neg (by decide : ¬ (((12 : Int) == 11) = true)), if_pos (by decide : (((12 : Int) == 12) = true))]
        rw [X.alu_do_i26_g1_eq, obind_of]; rfl
      by_cases h13 : op = 13
      · subst h13
        rw [if_neg (by decide : ¬ ((13 : Int) = 1)), if_neg (by decide : ¬ ((13 : Int) = 2)), if_neg (by decide : ¬ ((13 : Int) = 3)), if_neg (by decide : ¬ ((13 : Int) = 4)), if_neg (by decide : ¬ ((13 : Int) = 5)), if_neg (by decide : ¬ ((13 : Int) = 6)), if_neg (by decide : ¬ ((13 : Int) = 7)), if_neg (by decide : ¬ ((13 : Int) = 8)), if_neg (by decide : ¬ ((13 : Int) = 9)), if_neg (by decide : ¬ ((13 : Int) = 10)), if_neg (by decide : ¬ ((13 : Int) = 11)), if_neg (by decide : ¬ ((13 : Int) = 12)), if_pos (rfl : (13 : Int) = 13)]
        rw [if_neg (by decide : ¬ (((13 : Int) == 1) = true)), if_neg (by decide : ¬ (((13 : Int) == 2) = true)), if_neg (by decide : ¬ (((13 : Int) == 3) = true)), if_neg (by decide : ¬ (((13 : Int) == 4) = true)), if_neg (by decide : ¬ (((13 : Int) == 5) = true)), if_neg (by decide : ¬ (((13 : Int) == 6) = true)), if_neg (by decide : ¬ (((13 : Int) == 7) = true)), if_neg (by decide : ¬ (((13 : Int) == 8) = true)), if_neg (by decide : ¬ (((13 : Int) == 9) = true)), if_neg (by decide : ¬ (((13 : Int) == 10) = true)), if_neg (by decide : ¬ (((13 : Int) == 11) = true)), if_neg (by decide : ¬ (((13 : Int) == 12) = true)), if_pos (by decide : (((13 : Int) == 13) = true))]
        rw [X.alu_do_i27_g1_eq, obind_of]; rfl
      rw [if_neg h1, if_neg h2, if_neg h3, if_neg h4, if_neg h5, if_neg h6, if_neg h7, if_neg h8, if_neg h9, if_neg h10, if_neg h11, if_neg h12, if_neg h13]
      rw [if_neg (by simpa using h1), if_neg (by simpa using h2), if_neg (by simpa using h3), if_neg (by simpa using h4), if_neg (by simpa using h5), if_neg (by simpa using h6), if_neg (by simpa using h7), if_neg (by simpa using h8), if_neg (by simpa using h9), if_neg (by simpa using h10), if_neg (by simpa using h11), if_neg (by simpa using h12), if_neg (by simpa using h13)]
  rw [X.alu_do_i14_eq, e]
  cases h4 : (op == (4 : Int)) with
  | true => rw [forkB_true, hj _ (by rw [h4]; rfl)]
  | false =>
    rw [forkB_false]
    cases h5 : (op == (5 : Int)) with
    | true => rw [forkB_true, hj _ (by rw [h4, h5]; rfl)]
    | false => rw [forkB_false, hj _ (by rw [h4, h5]; rfl)]
theorem u32in (x : Int) : IU64 (IntKind.u32.wrap x) := by rw [wrapU32_eq]; omega
theorem aluDo11 (nw : Bool) (a b : Int) (hb : 0 ≤ b) : aluDo BIG 11 nw a b = some (alu_Do 11 nw a b) := by
  rw [aluDo_eq]
  cases nw with
  | true =>
    rw [forkB_true, do32 _ _ _ (u32in b).1, obind_of]
    have : alu_do_u32 11 32 (IntKind.u32.wrap a) (IntKind.u32.wrap b) = (alu_do_u32_11 (IntKind.u32.wrap a) (IntKind.u32.wrap b) 32, 0) := rfl
    unfold alu_Do letF
    rw [if_pos rfl, this]
    show some (IntKind.u64.wrap (alu_do_u32_11 _ _ 32), (0 : Int)) = some (alu_do_u32_11 _ _ 32, 0)
    rw [wrapU64]
    exact ⟨(u32in _).1, (u32in _).2⟩
  | false => rw [forkB_false, do64 _ _ _ hb, obind_of]; rfl
theorem bit_v (a k : Int) : X.ref01_bit BIG a k = some (ref01_bit a k) := by
  rw [X.ref01_bit_eq, if_neg (by rw [wrapU64_eq]; omega)]; rfl
theorem moved_v (a s z : Int) (b : Bool) (hs : -64 ≤ s ∧ s ≤ 64) (hz : 0 ≤ z ∧ z ≤ 64) : ∀ (m k n : Nat) (v : Int), k + m = z.toNat → 4 * m + 1 ≤ n → X.ref01_moved_L0 n a s z b v (k : Int) = some (ref01_moved_L0 a s z b (m + 1) v k)
  | 0, k, n, v, hk, hn => by
    obtain ⟨n', rfl⟩ : ∃ n', n = n' + 1 := ⟨n - 1, by omega⟩
    rw [X.ref01_moved_L0_eq, ref01_moved_L0, decide_eq_false (by omega), forkB_false, if_neg (by decide)]
  | m + 1, k, n, v, hk, hn => by
    obtain ⟨n', rfl⟩ : ∃ n', n = n' + 1 + 1 + 1 + 1 := ⟨n - 4, by omega⟩
    have ih := fun v => moved_v a s z b hs hz m (k + 1) n' v (by omega) (by omega)
    have e1 : ∀ v, X.ref01_moved_J1 (n' + 1) a s z b v (k : Int) = some (ref01_moved_L0 a s z b (m + 1) v (k + 1)) := fun v => by
      rw [X.ref01_moved_J1_eq, wrap64 (by omega), show ((k : Int) + 1) = ((k + 1 : Nat) : Int) by omega, ih]
    have e2 : ∀ c : Bool, X.ref01_moved_J2 (n' + 1 + 1) a s z b v (k : Int) c = some (if c = true then ref01_moved_L0 a s z b (m + 1) (bOr .u64 v (sShl .u64 (1 : Int) (IntKind.u64.wrap ((k : Nat) : Int)))) (k + 1) else ref01_moved_L0 a s z b (m + 1) v (k + 1)) := fun c => by
      rw [X.ref01_moved_J2_eq, if_neg (by rw [wrapU64_eq]; omega), e1, e1, forkB_some]
    rw [X.ref01_moved_L0_eq, ref01_moved_L0, decide_eq_true (by omega), forkB_true, if_pos rfl, wrap64 (by omega)]
    cases h1 : decide ((((k : Nat) : Int) - s) ≥ (0 : Int)) with
    | true =>
      rw [forkB_true, X.ref01_moved_J3_eq, Bool.true_and]
      cases h2 : decide ((((k : Nat) : Int) - s) < z) with
      | true => rw [forkB_true, bit_v, obind_of, e2, if_pos rfl]; rfl
      | false => rw [forkB_false, e2, if_neg (show ¬ (false = true) by decide)]
    | false => rw [forkB_false, X.ref01_moved_J3_eq, forkB_false, e2, Bool.false_and, if_neg (show ¬ (false = true) by decide)]
theorem moved_r (a s z : Int) (b : Bool) (hs : -64 ≤ s ∧ s ≤ 64) (hz : 0 ≤ z ∧ z ≤ 64) : X.ref01_moved BIG a s z b = some (ref01_moved a s z b) := by
  have h := moved_v a s z b hs hz z.toNat 0 BIG 0 (by omega) (by unfold BIG; omega)
  rw [show ((0 : Nat) : Int) = 0 from rfl] at h
  unfold ref01_moved
  rw [X.ref01_moved_eq, h, Nat.sub_zero]
theorem and_low_rng {x : Int} (h : IU64 x) : 0 ≤ bAnd .u64 x 4294967295 := by rw [and_low h]; omega
theorem ref01Do11 (nw : Bool) (x c : Int) (_hx : IU64 x) (hc : IU64 c) : ref01Do BIG 11 nw x c = some (ref01_Do_11 nw x c) := by
  obtain ⟨n, e⟩ : ∃ n : Nat, (BIG : Nat) = n + 1 + 1 + 1 + 1 := ⟨999999996, rfl⟩
  have hj : ∀ (s2 s3 s10 : Int), 0 ≤ s3 → (s10 = 32 ∨ s10 = 64) → ref01Do_J0 (n + 1 + 1 + 1 + 1) 11 nw s2 s3 s10 = forkB nw (some (bAnd .u64 (ref01_moved s2 (0 - s3.tmod s10) s10 (ref01_bit s2 (s10 - 1))) 4294967295, 0)) (some (ref01_moved s2 (0 - s3.tmod s10) s10 (ref01_bit s2 (s10 - 1)), 0)) := fun s2 s3 s10 h3 h10 => by
    have h4 : 0 ≤ s3.tmod s10 := Int.tmod_nonneg _ h3
    have h5 : s3.tmod s10 < s10 := Int.tmod_lt_of_pos _ (by omega)
    have h6 : IntKind.u64.wrap s10 = s10 := wrapU64 (by omega)
    rw [ref01Do_J0_eq, show ((11 : Int) == 1) = false from rfl, forkB_false, show ((11 : Int) == 2) = false from rfl, forkB_false, show ((11 : Int) == 3) = false from rfl, forkB_false, show ((11 : Int) == 4) = false from rfl, forkB_false, show ((11 : Int) == 5) = false from rfl]
    rw [ref01Do_J2_eq, forkB_false, show ((11 : Int) == 6) = false from rfl, forkB_false, show ((11 : Int) == 7) = false from rfl, forkB_false, show ((11 : Int) == 8) = false from rfl]
    rw [ref01Do_J3_eq, forkB_false, show ((11 : Int) == 9) = false from rfl, show ((11 : Int) == 10) = false from rfl, show ((11 : Int) == 11) = true from rfl, forkB_false, forkB_false, forkB_true, h6, if_neg (by omega), bit_v, obind_of,
      wrap64 (x := s3.tmod s10) (by omega), wrap64 (x := 0 - s3.tmod s10) (by omega), wrap64 (x := s10 - 1) (by omega), moved_r _ _ _ _ (by omega) (by omega), obind_of, ref01Do_J1_eq]
  rw [ref01Do_eq, e]
  cases nw with
  | true => rw [forkB_true, hj _ _ _ (and_low_rng hc) (.inl rfl), forkB_true]; rfl
  | false => rw [forkB_false, hj _ _ _ hc.1 (.inr rfl), forkB_false]; rfl
theorem mul_v (a b : Int) : bitsMul64 BIG a b = some (Mul64 a b) := by rw [bitsMul64_eq]; rfl
theorem tab_all : ∀ i : Fin 256, (str0[i.val]?).map (fun b => (b.toNat : Int)) = some (tab0.getD i.val 0) := by decide +kernel
theorem tab_le : ∀ i : Fin 256, 0 ≤ tab0.getD i.val 0 ∧ tab0.getD i.val 0 ≤ 8 := by decide +kernel
theorem u8in (x : Int) : 0 ≤ IntKind.u8.wrap x ∧ IntKind.u8.wrap x < 256 := by rw [wrapU8_eq]; omega
theorem tab_v {R : Type} (x : Int) (K : Int → Option R) : strAt str0 (IntKind.u8.wrap x) K = K (tab0.getD (IntKind.u8.wrap x).toNat 0) := by
  have h := u8in x
  have := tab_all ⟨(IntKind.u8.wrap x).toNat, by omega⟩
  unfold strAt
  rw [if_pos h.1]
  simp only at this
  cases hs : str0[(IntKind.u8.wrap x).toNat]? with
  | none => rw [hs] at this; cases this
  | some b => rw [hs] at this; simp only [Option.map_some, Option.some.injEq] at this; rw [← this]
theorem len_v (x : Int) : bitsLen64 BIG x = some (Len64 x) := by
  obtain ⟨n, e⟩ : ∃ n : Nat, (BIG : Nat) = n + 1 + 1 + 1 := ⟨999999997, rfl⟩
  have j2 : ∀ s0 s2 : Int, 0 ≤ s2 ∧ s2 ≤ 1000 → bitsLen64_J2 (n + 1) s0 s2 = some (s2 + tab0.getD (IntKind.u8.wrap s0).toNat 0) := fun s0 s2 h => by
    have h1 := u8in s0
    have h2 := tab_le ⟨(IntKind.u8.wrap s0).toNat, by omega⟩
    simp only at h2
    rw [bitsLen64_J2_eq, tab_v, wrap64 (x := tab0.getD _ 0) (by omega), wrap64 (by omega)]
  have j1 : ∀ s0 s2 : Int, 0 ≤ s2 ∧ s2 ≤ 900 → bitsLen64_J1 (n + 1 + 1) s0 s2 = some (if decide (s0 ≥ (256 : Int)) = true then (s2 + 8) + tab0.getD (IntKind.u8.wrap (sShr .u64 s0 8)).toNat 0 else s2 + tab0.getD (IntKind.u8.wrap s0).toNat 0) := fun s0 s2 h => by
    rw [bitsLen64_J1_eq, wrap64 (by omega), j2 _ _ (by omega), j2 _ _ (by omega), forkB_some]
  have j0 : ∀ s0 s2 : Int, 0 ≤ s2 ∧ s2 ≤ 800 → bitsLen64_J0 (n + 1 + 1 + 1) s0 s2 = some (if decide (s0 ≥ (65536 : Int)) = true then (if decide (sShr .u64 s0 16 ≥ (256 : Int)) = true then (s2 + 16 + 8) + tab0.getD (IntKind.u8.wrap (sShr .u64 (sShr .u64 s0 16) 8)).toNat 0 else s2 + 16 + tab0.getD (IntKind.u8.wrap (sShr .u64 s0 16)).toNat 0) else if decide (s0 ≥ (256 : Int)) = true then (s2 + 8) + tab0.getD (IntKind.u8.wrap (sShr .u64 s0 8)).toNat 0 else s2 + tab0.getD (IntKind.u8.wrap s0).toNat 0) := fun s0 s2 h => by
    rw [bitsLen64_J0_eq, wrap64 (by omega), j1 _ _ (by omega), j1 _ _ (by omega), forkB_some]
  rw [bitsLen64_eq, e, j0 _ _ (by omega), j0 _ _ (by omega), forkB_some]
  unfold Len64
  simp only [show (48 : Int) + 8 = 56 from rfl, show (16 : Int) + 8 = 24 from rfl, show (32 : Int) + 16 = 48 from rfl, show (32 : Int) + 8 = 40 from rfl, show (0 : Int) + 16 = 16 from rfl, show (0 : Int) + 8 = 8 from rfl]
end Go.Y

/- What the document says an operator makes of spans: the plain function. -/
namespace Go.Y
open Go.RowKit Go.V Go.X Go.Proofs

theorem fillN_form {n : Int} (hn : 0 ≤ n) : ∃ j : Nat, fillN n = ((2 ^ j : Nat) : Int) - 1 ∧ n.toNat < 2 ^ j ∧ ∀ k : Nat, n.toNat < 2 ^ k → j ≤ k := by
  unfold fillN
  by_cases h0 : n = 0
  · subst h0; exact ⟨0, by simp, by decide, fun k _ => Nat.zero_le k⟩
  · rw [if_neg h0]
    refine ⟨Nat.log2 n.toNat + 1, rfl, (Nat.log2_lt (by omega)).1 (Nat.lt_succ_self _), fun k hk => ?_⟩
    have := (Nat.log2_lt (n := n.toNat) (k := k) (by omega)).2 hk
    omega
theorem filled_v {x : Int} (h : IU64 x) : ref11_filled BIG x = some (fillN x) := by
  obtain ⟨j, h1, h2, h3⟩ := fillN_form h.1
  have hj : j ≤ 64 := h3 64 (by omega)
  have := loop0 (fun n k => ref11_filled_L0 n x (((2 ^ k : Nat) : Int) - 1)) 1 j (some (fillN x)) (fun n k hk => ?_) (fun n => ?_) BIG (by unfold BIG; omega)
  · rw [ref11_filled_eq]
    have e : (((2 ^ 0 : Nat) : Int) - 1) = 0 := rfl
    simp only [e] at this
    exact this
  · show ref11_filled_L0 (n + 1) x (((2 ^ k : Nat) : Int) - 1) = ref11_filled_L0 n x (((2 ^ (k + 1) : Nat) : Int) - 1)
    have hk1 : ¬ x.toNat < 2 ^ k := fun hx => by have := h3 k hx; omega
    have hp : 2 ^ k ≤ 2 ^ 63 := Nat.pow_le_pow_right (by decide) (by omega)
    have hp1 : 1 ≤ 2 ^ k := Nat.one_le_two_pow
    rw [ref11_filled_L0_eq, decide_eq_true (by omega), forkB_true, wrapU64 (x := 2 * (((2 ^ k : Nat) : Int) - 1)) (by omega), wrapU64 (by omega), show (2 * (((2 ^ k : Nat) : Int) - 1) + 1) = (((2 ^ (k + 1) : Nat) : Int) - 1) by rw [Nat.pow_succ]; omega]
  · show ref11_filled_L0 (n + 1) x (((2 ^ j : Nat) : Int) - 1) = _
    rw [ref11_filled_L0_eq, decide_eq_false (by omega), forkB_false, h1]
theorem rmost_v (nw : Bool) : X.ref11_most BIG nw = some (ref11_most nw) := by rw [X.ref11_most_eq]; cases nw <;> rfl
theorem rall_v (nw : Bool) : ref11All BIG nw = some (ref11_All nw) := by rw [ref11All_eq, rmost_v, obind_of]; rfl
theorem rright_v (s : TSpan) : ref11Right BIG s = some (ref11_Right s) := by rw [ref11Right_eq]; rfl
theorem rcut_v (s : TSpan) (nw : Bool) : X.ref11_cut BIG s nw = some (ref11_cut s nw) := by rw [X.ref11_cut_eq, rall_v, obind_of, forkB_some, forkB_some]; rfl
theorem rsingle_v (s : TSpan) : X.ref11_single BIG s = some (ref11_single s) := by rw [X.ref11_single_eq]; rfl
theorem rbits_v (nw : Bool) : X.ref11_bits BIG nw = some (ref11_bits nw) := by rw [X.ref11_bits_eq]; cases nw <;> rfl
theorem rof_v (x : Int) : ref11Of BIG x = some (ref11_Of x) := by rw [ref11Of_eq]; rfl
theorem rbelow_v (x : Int) (nw : Bool) : X.ref11_below BIG x nw = some (ref11_below x nw) := by rw [X.ref11_below_eq, forkB_some]; rfl
theorem rsums_v (op m : Int) (u v : TSpan) : X.ref11_sums BIG op m u v = some (ref11_sums op m u v) := by
  obtain ⟨n, e⟩ : ∃ n : Nat, (BIG : Nat) = n + 1 := ⟨999999999, rfl⟩
  rw [X.ref11_sums_eq, e, X.ref11_sums_J0_eq, X.ref11_sums_J0_eq, X.ref11_sums_J1_eq, X.ref11_sums_J1_eq, X.ref11_sums_J2_eq, X.ref11_sums_J2_eq]
  unfold ref11_sums
  cases h1 : (op == (1 : Int)) with
  | true => rw [forkB_true, if_pos rfl, forkB_some]; cases decide (v.Hi ≤ IntKind.u64.wrap (m - u.Hi)) <;> rfl
  | false =>
    rw [forkB_false, if_neg (show ¬ (false = true) by decide)]
    cases h2 : (op == (2 : Int)) with
    | true => rw [forkB_true, if_pos rfl, forkB_some]
    | false =>
      rw [forkB_false, if_neg (show ¬ (false = true) by decide)]
      cases h3 : (op == (3 : Int)) with
      | true =>
        rw [forkB_true, if_pos rfl]
        cases h4 : (v.Hi == (0 : Int)) with
        | true => rfl
        | false => rw [forkB_false, if_neg (by simpa using h4), if_neg (show ¬ (false = true) by decide)]
      | false => rw [forkB_false, if_neg (show ¬ (false = true) by decide), forkB_some]
theorem gMax1 (x : Int) : ¬ gMax x 1 = 0 := by unfold gMax; split <;> omega
theorem rparts_v (op : Int) (u v : TSpan) : X.ref11_parts BIG op u v = some (ref11_parts op u v) := by
  rw [X.ref11_parts_eq, if_neg (gMax1 _), if_neg (gMax1 _), forkB_some, forkB_some]; rfl
theorem bOr_in (x y : Int) : IU64 (bOr .u64 x y) := by unfold bOr; rw [wrapU64_eq]; omega
theorem rlogic_v (op : Int) (u v : TSpan) : X.ref11_logic BIG op u v = some (ref11_logic op u v) := by
  obtain ⟨n, e⟩ : ∃ n : Nat, (BIG : Nat) = n + 1 + 1 + 1 := ⟨999999997, rfl⟩
  have j0 : ∀ c : Bool, X.ref11_logic_J0 (n + 1 + 1 + 1) op c u.Lo u.Hi v.Lo v.Hi 0 0 = some (if ((op == (6 : Int)) && c) = true then ref11_Of (bAnd .u64 u.Lo v.Lo) else if ((op == (7 : Int)) && c) = true then ref11_Of (bOr .u64 u.Lo v.Lo) else if c = true then ref11_Of (bXor .u64 u.Lo v.Lo) else if (op == (6 : Int)) = true then ⟨0, gMin u.Hi v.Hi⟩ else if (op == (7 : Int)) = true then ⟨gMax u.Lo v.Lo, fillN (bOr .u64 u.Hi v.Hi)⟩ else ⟨0, fillN (bOr .u64 u.Hi v.Hi)⟩) := fun c => by
    have j2 : ∀ d : Bool, X.ref11_logic_J2 (n + 1) op c d u.Lo u.Hi v.Lo v.Hi 0 0 = some (if d = true then ref11_Of (bOr .u64 u.Lo v.Lo) else if c = true then ref11_Of (bXor .u64 u.Lo v.Lo) else if (op == (6 : Int)) = true then ⟨0, gMin u.Hi v.Hi⟩ else if (op == (7 : Int)) = true then ⟨gMax u.Lo v.Lo, fillN (bOr .u64 u.Hi v.Hi)⟩ else ⟨0, fillN (bOr .u64 u.Hi v.Hi)⟩) := fun d => by
      rw [X.ref11_logic_J2_eq, rof_v, obind_of, rof_v, obind_of, filled_v (bOr_in _ _), obind_of, obind_of, forkB_some, forkB_some, forkB_some, forkB_some]
    have j1 : ∀ d : Bool, X.ref11_logic_J1 (n + 1 + 1) op c d u.Lo u.Hi v.Lo v.Hi 0 0 = some (if d = true then ref11_Of (bAnd .u64 u.Lo v.Lo) else if ((op == (7 : Int)) && c) = true then ref11_Of (bOr .u64 u.Lo v.Lo) else if c = true then ref11_Of (bXor .u64 u.Lo v.Lo) else if (op == (6 : Int)) = true then ⟨0, gMin u.Hi v.Hi⟩ else if (op == (7 : Int)) = true then ⟨gMax u.Lo v.Lo, fillN (bOr .u64 u.Hi v.Hi)⟩ else ⟨0, fillN (bOr .u64 u.Hi v.Hi)⟩) := fun d => by
      rw [X.ref11_logic_J1_eq, rof_v, obind_of, j2, j2, forkB_some, forkB_some]
      cases (op == (7 : Int)) <;> rfl
    rw [X.ref11_logic_J0_eq, j1, j1, forkB_some]
    cases (op == (6 : Int)) <;> rfl
  rw [X.ref11_logic_eq, rsingle_v, obind_of, rsingle_v, obind_of, e, j0, j0, forkB_some]
  unfold ref11_logic letF
  cases ref11_single u <;> rfl
theorem tmod_in {x m : Int} (hx : IU64 x) (hm : 0 < m ∧ m ≤ 64) : IU64 (x.tmod m) := by
  have h1 := Int.tmod_nonneg m hx.1
  have h2 := Int.tmod_lt_of_pos x hm.1
  exact ⟨h1, by omega⟩
theorem rshifts_v (op : Int) (nw : Bool) (u v : TSpan) (hu : IU64 u.Lo ∧ IU64 u.Hi) (hv : IU64 v.Lo ∧ IU64 v.Hi) : X.ref11_shifts BIG op nw u v = some (ref11_shifts op nw u v) := by
  have hb : 0 < ref11_bits nw ∧ ref11_bits nw ≤ 64 := by cases nw <;> decide
  have ht := tmod_pos hv.1.1 hb.1
  rw [X.ref11_shifts_eq, rmost_v, obind_of, rbits_v, obind_of, if_neg (by omega), rsingle_v, obind_of, obind_of, if_neg ht, if_neg ht, if_neg ht, if_neg ht, if_neg ht, if_neg (by have := hv.2.1; omega), if_neg (by have := hv.1.1; omega),
    ref01Do11 _ _ _ hu.1 (tmod_in hv.1 hb), obind_of, ref01Do11 _ _ _ hu.2 (tmod_in hv.1 hb), obind_of, rbelow_v, obind_of, rbelow_v, obind_of]
  simp only [forkB_some]
  unfold ref11_shifts letF
  rfl
end Go.Y

/- The document's operator, whole. -/
namespace Go.Y
open Go.RowKit Go.V Go.X Go.Proofs

theorem rdo_in (n : Nat) (op : Int) (nw : Bool) (a b : TSpan) (hu : IU64 (ref11_cut a nw).Lo ∧ IU64 (ref11_cut a nw).Hi) (hv : IU64 (ref11_cut b nw).Lo ∧ IU64 (ref11_cut b nw).Hi) :
    X.ref11Do_J0 (n + 1 + 1 + 1 + 1 + 1 + 1) op nw false a.Lo a.Hi b.Lo b.Hi 0 0 = some (if (op == (1 : Int)) = true then ref11_Do_J1 op nw a b true else if (op == (2 : Int)) = true then ref11_Do_J1 op nw a b true else if (op == (3 : Int)) = true then ref11_Do_J1 op nw a b true else ref11_Do_J1 op nw a b (op == (13 : Int))) := by
  have j1 : ∀ (m : Nat) (c : Bool) (p q x y : Int), X.ref11Do_J1 (m + 1) nw c p q x y = some (ref11_Do_J0 op nw a b c x y) := fun m c p q x y => by
    rw [X.ref11Do_J1_eq, rall_v, obind_of, forkB_some]; rfl
  have j5 : ∀ (s12 s68 v2 v3 v4 : Bool), s12 = true → X.ref11Do_J5 (n + 1 + 1) op nw s12 s68 0 0 (ref11_cut a nw).Lo (ref11_cut a nw).Hi (ref11_cut b nw).Lo (ref11_cut b nw).Hi (ref11_cut b nw).Lo (ref11_cut b nw).Hi = some (ref11_Do_J4 op nw a b v2 v3 v4 s68) := fun s12 s68 v2 v3 v4 h => by
    subst h
    have e : X.ref11_shifts BIG op nw (⟨(ref11_cut a nw).Lo, (ref11_cut a nw).Hi⟩ : Span) (⟨(ref11_cut b nw).Lo, (ref11_cut b nw).Hi⟩ : Span) = _ := rshifts_v op nw (ref11_cut a nw) (ref11_cut b nw) hu hv
    rw [X.ref11Do_J5_eq, e, obind_of, j1, j1, forkB_some]; rfl
  have j4 : ∀ (s60 v2 v3 : Bool), X.ref11Do_J4 (n + 1 + 1 + 1) op nw true op s60 0 0 (ref11_cut a nw).Lo (ref11_cut a nw).Hi (ref11_cut b nw).Lo (ref11_cut b nw).Hi (ref11_cut b nw).Lo (ref11_cut b nw).Hi = some (ref11_Do_J3 op nw a b v2 v3 s60) := fun s60 v2 v3 => by
    have e : X.ref11_logic BIG op (⟨(ref11_cut a nw).Lo, (ref11_cut a nw).Hi⟩ : Span) (⟨(ref11_cut b nw).Lo, (ref11_cut b nw).Hi⟩ : Span) = _ := rlogic_v op (ref11_cut a nw) (ref11_cut b nw)
    rw [X.ref11Do_J4_eq, e, obind_of, j1, j5 _ _ v2 v3 s60 rfl, j5 _ _ v2 v3 s60 rfl, j5 _ _ v2 v3 s60 rfl, forkB_some, forkB_some, forkB_some]
    unfold ref11_Do_J3 letF
    cases h9 : (op == (9 : Int)) with
    | true => rfl
    | false => cases h10 : (op == (10 : Int)) <;> rfl
  have j3 : ∀ (s53 v2 : Bool), X.ref11Do_J3 (n + 1 + 1 + 1 + 1) op nw true op s53 0 0 (ref11_cut a nw).Lo (ref11_cut a nw).Hi (ref11_cut b nw).Lo (ref11_cut b nw).Hi (ref11_cut b nw).Lo (ref11_cut b nw).Hi = some (ref11_Do_J2 op nw a b v2 s53) := fun s53 v2 => by
    have e : X.ref11_parts BIG op (⟨(ref11_cut a nw).Lo, (ref11_cut a nw).Hi⟩ : Span) (⟨(ref11_cut b nw).Lo, (ref11_cut b nw).Hi⟩ : Span) = _ := rparts_v op (ref11_cut a nw) (ref11_cut b nw)
    rw [X.ref11Do_J3_eq, e, obind_of, j1, j4 _ v2 s53, j4 _ v2 s53, j4 _ v2 s53, forkB_some, forkB_some, forkB_some]
    unfold ref11_Do_J2 letF
    cases h6 : (op == (6 : Int)) with
    | true => rfl
    | false => cases h7 : (op == (7 : Int)) <;> rfl
  have j2 : ∀ (s39 : Bool), X.ref11Do_J2 (n + 1 + 1 + 1 + 1 + 1) op nw true op s39 0 0 (ref11_cut a nw).Lo (ref11_cut a nw).Hi (ref11_cut b nw).Lo (ref11_cut b nw).Hi (ref11_cut b nw).Lo (ref11_cut b nw).Hi = some (ref11_Do_J1 op nw a b s39) := fun s39 => by
    have e : X.ref11_sums BIG op (ref11_most nw) (⟨(ref11_cut a nw).Lo, (ref11_cut a nw).Hi⟩ : Span) (⟨(ref11_cut b nw).Lo, (ref11_cut b nw).Hi⟩ : Span) = _ := rsums_v op (ref11_most nw) (ref11_cut a nw) (ref11_cut b nw)
    rw [X.ref11Do_J2_eq, rmost_v, obind_of, e, obind_of, j1, j3 _ s39, j3 _ s39, forkB_some, forkB_some]
    unfold ref11_Do_J1
    cases h4 : (op == (4 : Int)) <;> rfl
  have ea : X.ref11_cut BIG (⟨a.Lo, a.Hi⟩ : Span) nw = some (ref11_cut a nw) := rcut_v a nw
  have eb : X.ref11_cut BIG (⟨b.Lo, b.Hi⟩ : Span) nw = some (ref11_cut b nw) := rcut_v b nw
  rw [X.ref11Do_J0_eq, forkB_false, ea, obind_of, eb, obind_of, j2, j2, j2, j2, forkB_some, forkB_some, forkB_some]
  cases h1 : (op == (1 : Int)) with
  | true => rfl
  | false =>
    cases h2 : (op == (2 : Int)) with
    | true => rfl
    | false => cases h3 : (op == (3 : Int)) <;> rfl
theorem rdo_v (op : Int) (nw : Bool) (a b : TSpan) (ha : IU64 a.Lo ∧ IU64 a.Hi) (hb : IU64 b.Lo ∧ IU64 b.Hi) : X.ref11Do BIG op nw a b = some (ref11_Do op nw a b) := by
  obtain ⟨n, e⟩ : ∃ n : Nat, (BIG : Nat) = n + 1 + 1 + 1 + 1 + 1 + 1 := ⟨999999994, rfl⟩
  have jt : X.ref11Do_J0 (n + 1 + 1 + 1 + 1 + 1 + 1) op nw true a.Lo a.Hi b.Lo b.Hi 0 0 = some (ref11_All nw) := by
    rw [X.ref11Do_J0_eq, forkB_true, rall_v, obind_of]
  rw [X.ref11Do_eq, rright_v, obind_of, rright_v, obind_of, e, jt]
  unfold ref11_Do letF
  cases h1 : decide (op < (1 : Int)) with
  | true => rfl
  | false =>
    cases h2 : decide (op > (13 : Int)) with
    | true => rfl
    | false =>
      cases h3 : ref11_Right a with
      | false => rfl
      | true =>
        cases h4 : ref11_Right b with
        | false => rw [Bool.not_false, jt]; rfl
        | true =>
          have hu := cut_ok (nw := nw) ha (of_decide_eq_true h3)
          have hv := cut_ok (nw := nw) hb (of_decide_eq_true h4)
          rw [← cut_same] at hu hv
          rw [Bool.not_true, rdo_in n op nw a b hu.u hv.u]; rfl
end Go.Y

/- What the program's operators make of two spans at work: the plain functions. -/
namespace Go.Y
open Go.RowKit Go.V Go.X Go.Proofs

theorem all_v (nw : Bool) : spanAll BIG nw = some (span_All nw) := by rw [spanAll_eq]; cases nw <;> rfl
theorem right_v (s : TSpan) : spanRight BIG s = some (span_Right s) := by rw [spanRight_eq]; rfl
theorem of_v (x : Int) : spanOf BIG x = some (span_Of x) := by rw [spanOf_eq]; rfl
theorem one_v (s : TSpan) : X.span_one BIG s = some (span_one s) := by rw [X.span_one_eq, of_v, obind_of]; rfl
theorem cut_v (s : TSpan) (nw : Bool) : X.span_cut BIG s nw = some (span_cut s nw) := by rw [X.span_cut_eq, all_v, obind_of, forkB_some, forkB_some]; rfl
def wW (nw : Bool) (u v : TSpan) : Work := ⟨u.Lo, u.Hi, v.Lo, v.Hi, nw, mostI nw, if nw then 32 else 64⟩
def tW (w : Work) : Twork := ⟨⟨w.a_Lo, w.a_Hi⟩, ⟨w.b_Lo, w.b_Hi⟩, w.narrow, w.most, w.size⟩
theorem tW_wW (nw : Bool) (u v : TSpan) : tW (wW nw u v) = wk nw u v := rfl
theorem over_v (nw : Bool) (a b : TSpan) : X.span_over BIG nw a b = some (wW nw (span_cut a nw) (span_cut b nw)) := by
  rw [X.span_over_eq, cut_v, obind_of, cut_v, obind_of]; cases nw <;> rfl
def pS (o : Option TSpan) : Unit × ((Span × Unit) ⊕ (Unit × Unit)) := ((), match o with | some r => .inl (r, ()) | none => .inr ((), ()))
theorem must_v (c : Bool) : span_must_g1 BIG c = some ((), if c = true then .inl () else .inr ((), ())) := by rw [span_must_g1_eq]; cases c <;> rfl
theorem ends_v (w : Work) (x y : Int) : X.span_work_ends BIG w x y = some (span_work_ends (tW w) x y) := by rw [X.span_work_ends_eq]; rfl
theorem both_v (w : Work) : X.span_work_both BIG w = some (span_work_both (tW w)) := by
  rw [X.span_work_both_eq, one_v, obind_of, one_v, obind_of, forkB_and]; rfl
theorem fill_v (x : Int) : X.span_fill BIG x = some (span_fill x) := by
  have h : 0 ≤ Len64 x := by
    have key : ∀ k : Int, 0 ≤ tab0.getD (IntKind.u8.wrap k).toNat 0 := fun k => by
      have h1 := u8in k
      exact (tab_le ⟨(IntKind.u8.wrap k).toNat, by omega⟩).1
    unfold Len64
    repeat' split
    all_goals first | exact Int.add_nonneg (by decide) (key _)
  rw [X.span_fill_eq, len_v, obind_of, if_neg (by omega)]; rfl
theorem add_v (w : Work) : span_work_add_g1 BIG w = some (pS (span_work_add (tW w))) := by
  obtain ⟨n, e⟩ : ∃ n : Nat, (BIG : Nat) = n + 1 := ⟨999999999, rfl⟩
  rw [span_work_add_g1_eq, must_v, obind_of, must_v, obind_of, e, span_work_add_g1_J0_eq, ends_v, obind_of]
  show _ = some (pS (optF (span_must (decide (w.b_Hi ≤ IntKind.u64.wrap (w.most - w.a_Hi)) || decide (w.b_Lo > IntKind.u64.wrap (w.most - w.a_Lo)))) none _))
  cases decide (w.b_Hi ≤ IntKind.u64.wrap (w.most - w.a_Hi)) <;> cases decide (w.b_Lo > IntKind.u64.wrap (w.most - w.a_Lo)) <;> rfl
theorem sub_v (w : Work) : span_work_sub_g1 BIG w = some (pS (span_work_sub (tW w))) := by
  obtain ⟨n, e⟩ : ∃ n : Nat, (BIG : Nat) = n + 1 := ⟨999999999, rfl⟩
  rw [span_work_sub_g1_eq, must_v, obind_of, must_v, obind_of, e, span_work_sub_g1_J0_eq, ends_v, obind_of]
  show _ = some (pS (optF (span_must (decide (w.a_Lo ≥ w.b_Hi) || decide (w.a_Hi < w.b_Lo))) none _))
  cases decide (w.a_Lo ≥ w.b_Hi) <;> cases decide (w.a_Hi < w.b_Lo) <;> rfl
theorem mulw_v (w : Work) : span_work_mul_g1 BIG w = some (pS (span_work_mul (tW w))) := by
  obtain ⟨n, e⟩ : ∃ n : Nat, (BIG : Nat) = n + 1 := ⟨999999999, rfl⟩
  rw [span_work_mul_g1_eq, mul_v, obind_of, must_v, obind_of, must_v, obind_of, e, span_work_mul_g1_J0_eq]
  show _ = some (pS (optF (span_must (((Mul64 w.a_Hi w.b_Hi).1 == (0 : Int)) && decide ((Mul64 w.a_Hi w.b_Hi).2 ≤ w.most))) none _))
  cases ((Mul64 w.a_Hi w.b_Hi).1 == (0 : Int)) <;> cases decide ((Mul64 w.a_Hi w.b_Hi).2 ≤ w.most) <;> rfl
theorem div_v (w : Work) : X.span_work_div BIG w = some (span_work_div (tW w)) := by
  rw [X.span_work_div_eq, if_neg (gMax1 _), if_neg (gMax1 _)]; rfl
theorem mod_v (w : Work) : X.span_work_mod BIG w = some (span_work_mod (tW w)) := by
  rw [X.span_work_mod_eq, forkB_some]; rfl
theorem and_v (w : Work) : X.span_work_and BIG w = some (span_work_and (tW w)) := by
  rw [X.span_work_and_eq, both_v, obind_of, of_v, obind_of, forkB_some]; rfl
theorem or_v (w : Work) : X.span_work_or BIG w = some (span_work_or (tW w)) := by
  rw [X.span_work_or_eq, both_v, obind_of, of_v, obind_of, fill_v, obind_of, forkB_some]; rfl
theorem xor_v (w : Work) : X.span_work_xor BIG w = some (span_work_xor (tW w)) := by
  rw [X.span_work_xor_eq, both_v, obind_of, of_v, obind_of, fill_v, obind_of, forkB_some]; rfl
theorem mov_v (w : Work) : X.span_work_mov BIG w = some (span_work_mov (tW w)) := by rw [X.span_work_mov_eq]; rfl
theorem neg_v (w : Work) : span_work_neg_g1 BIG w = some (pS (span_work_neg (tW w))) := by
  rw [span_work_neg_g1_eq, must_v, obind_of, ends_v, obind_of]
  show _ = some (pS (if (w.a_Hi == (0 : Int)) = true then some ⟨w.a_Lo, w.a_Hi⟩ else optF (span_must (decide (w.a_Lo > (0 : Int)))) none _))
  cases (w.a_Hi == (0 : Int)) <;> cases decide (w.a_Lo > (0 : Int)) <;> rfl
theorem shl_v (w : Work) (hs : 0 < w.size) (hb : 0 ≤ w.b_Lo) : span_work_shl_g1 BIG w = some (pS (span_work_shl (tW w))) := by
  obtain ⟨n, e⟩ : ∃ n : Nat, (BIG : Nat) = n + 1 := ⟨999999999, rfl⟩
  have ht := tmod_pos hb hs
  rw [span_work_shl_g1_eq, if_neg (by omega), one_v, obind_of, if_neg ht, must_v, obind_of, must_v, obind_of, e, span_work_shl_g1_J0_eq, if_neg ht, if_neg ht]
  show _ = some (pS (optF (span_must (span_one (⟨w.b_Lo, w.b_Hi⟩ : TSpan) && decide (w.a_Hi ≤ sShr .u64 w.most (w.b_Lo.tmod w.size)))) none _))
  cases span_one (⟨w.b_Lo, w.b_Hi⟩ : TSpan) <;> cases decide (w.a_Hi ≤ sShr .u64 w.most (w.b_Lo.tmod w.size)) <;> rfl
theorem shr_v (w : Work) (hs : 0 < w.size) (hb : 0 ≤ w.b_Lo) (hc : 0 ≤ w.b_Hi) : X.span_work_shr BIG w = some (span_work_shr (tW w)) := by
  obtain ⟨n, e⟩ : ∃ n : Nat, (BIG : Nat) = n + 1 := ⟨999999999, rfl⟩
  have ht := tmod_pos hb hs
  have hu := tmod_pos hc hs
  rw [X.span_work_shr_eq, one_v, obind_of, if_neg (by omega), if_neg (by omega), e, X.span_work_shr_J0_eq, X.span_work_shr_J0_eq, if_neg hu, if_neg ht, if_neg (by omega), if_neg (by omega), forkB_some, forkB_some]
  rfl
theorem below_v (w : Work) (x : Int) : X.span_work_below BIG w x = some (span_work_below (tW w) x) := by
  rw [X.span_work_below_eq, if_neg (by rw [wrapU64_eq]; omega)]; rfl
theorem mixed_v (w : Work) (s : TSpan) : X.span_work_mixed BIG w s = some (span_work_mixed (tW w) s) := by
  rw [X.span_work_mixed_eq, below_v, obind_of, below_v, obind_of]; rfl
theorem sar_v (w : Work) (hb : 0 ≤ w.b_Lo) : span_work_sar_g1 BIG w = some (pS (span_work_sar (tW w))) := by
  obtain ⟨n, e⟩ : ∃ n : Nat, (BIG : Nat) = n + 1 := ⟨999999999, rfl⟩
  rw [span_work_sar_g1_eq, one_v, obind_of, mixed_v, obind_of, must_v, obind_of, must_v, obind_of, e, span_work_sar_g1_J0_eq, aluDo11 _ _ _ hb, obind_of, aluDo11 _ _ _ hb, obind_of]
  show _ = some (pS (optF (span_must (span_one (⟨w.b_Lo, w.b_Hi⟩ : TSpan) && !(span_work_mixed (tW w) (⟨w.a_Lo, w.a_Hi⟩ : TSpan)))) none _))
  cases span_one (⟨w.b_Lo, w.b_Hi⟩ : TSpan) <;> cases span_work_mixed (tW w) (⟨w.a_Lo, w.a_Hi⟩ : TSpan) <;> rfl
end Go.Y

/- The program's operator, whole. -/
namespace Go.Y
open Go.RowKit Go.V Go.X Go.Proofs

theorem doP (nw : Bool) (x : Option TSpan) : (match (pS x).2 with | .inl z => (obind (spanDo_1_d1 nw z.1.Lo z.1.Hi) fun y => some ((), ((⟨y.2.1.1, y.2.1.2.1⟩ : Span), ()))) | .inr _ => (obind (spanDo_1_d2 nw 0 0) fun y => some ((), ((⟨y.2.1.1, y.2.1.2.1⟩ : Span), ())))) = some ((), (x.getD (span_All nw), ())) := by
  cases x with
  | none => show obind (spanDo_1_d2 nw 0 0) _ = _; rw [spanDo_1_d2_eq, all_v, obind_of, obind_of]; rfl
  | some r => show obind (spanDo_1_d1 nw r.Lo r.Hi) _ = _; rw [spanDo_1_d1_eq, obind_of]; rfl
theorem doT (nw : Bool) (r : TSpan) : (obind (spanDo_1_d1 nw r.Lo r.Hi) fun y => some ((), ((⟨y.2.1.1, y.2.1.2.1⟩ : Span), ()))) = some ((), (r, ())) := by rw [spanDo_1_d1_eq, obind_of]
theorem doR (k : Int) (hk : 1 ≤ k ∧ k ≤ 13) (nw : Bool) (a b : TSpan) : span_Do k nw a b = if ((!span_Right a) || !span_Right b) = true then span_All nw else (rulesOf k (wk nw (span_cut a nw) (span_cut b nw))).getD (span_All nw) := by
  rw [span_Do_eq, all_eq]
  unfold span_Right
  by_cases h1 : a.Lo ≤ a.Hi
  · by_cases h2 : b.Lo ≤ b.Hi
    · rw [if_pos ⟨hk, h1, h2⟩, decide_eq_true h1, decide_eq_true h2]; rfl
    · rw [if_neg (fun h => h2 h.2.2), decide_eq_false h2, decide_eq_true h1]; rfl
  · rw [if_neg (fun h => h1 h.2.1), decide_eq_false h1]; rfl
theorem do1 (nw : Bool) (a b : TSpan) (ha : IU64 a.Lo ∧ IU64 a.Hi) (hb : IU64 b.Lo ∧ IU64 b.Hi) : spanDo_g1 BIG 1 nw a b = some ((), (span_Do 1 nw a b, ())) := by
  have hr : ∀ w, rulesOf 1 w = span_work_add w := fun w => by
    unfold rulesOf
    rw [if_pos (rfl : (1 : Int) = 1)]
  rw [doR 1 (by decide), hr, spanDo_g1_eq, span_rules_g1_eq, obind_of, if_pos (rfl : (1 : Int) = 1), right_v, obind_of, all_v, obind_of, right_v, obind_of, over_v, obind_of]
  cases h1 : span_Right a with
  | false => rfl
  | true =>
    cases h2 : span_Right b with
    | false => rfl
    | true =>
      rw [Bool.not_true, forkB_false, forkB_false, add_v, obind_of, tW_wW]
      exact doP nw _
theorem do2 (nw : Bool) (a b : TSpan) (ha : IU64 a.Lo ∧ IU64 a.Hi) (hb : IU64 b.Lo ∧ IU64 b.Hi) : spanDo_g1 BIG 2 nw a b = some ((), (span_Do 2 nw a b, ())) := by
  have hr : ∀ w, rulesOf 2 w = span_work_sub w := fun w => by
    unfold rulesOf
    rw [if_neg (by decide : ¬ ((2 : Int) = 1)), if_pos (rfl : (2 : Int) = 2)]
  rw [doR 2 (by decide), hr, spanDo_g1_eq, span_rules_g1_eq, obind_of, if_neg (by decide : ¬ ((2 : Int) = 1)), if_pos (rfl : (2 : Int) = 2), right_v, obind_of, all_v, obind_of, right_v, obind_of, over_v, obind_of]
  cases h1 : span_Right a with
  | false => rfl
  | true =>
    cases h2 : span_Right b with
    | false => rfl
    | true =>
      rw [Bool.not_true, forkB_false, forkB_false, sub_v, obind_of, tW_wW]
      exact doP nw _
theorem do3 (nw : Bool) (a b : TSpan) (ha : IU64 a.Lo ∧ IU64 a.Hi) (hb : IU64 b.Lo ∧ IU64 b.Hi) : spanDo_g1 BIG 3 nw a b = some ((), (span_Do 3 nw a b, ())) := by
  have hr : ∀ w, rulesOf 3 w = span_work_mul w := fun w => by
    unfold rulesOf
    rw [if_neg (by decide : ¬ ((3 : Int) = 1)), if_neg (by decide : ¬ ((3 : Int) = 2)), if_pos (rfl : (3 : Int) = 3)]
  rw [doR 3 (by decide), hr, spanDo_g1_eq, span_rules_g1_eq, obind_of, if_neg (by decide : ¬ ((3 : Int) = 1)), if_neg (by decide : ¬ ((3 : Int) = 2)), if_pos (rfl : (3 : Int) = 3), right_v, obind_of, all_v, obind_of, right_v, obind_of, over_v, obind_of]
  cases h1 : span_Right a with
  | false => rfl
  | true =>
    cases h2 : span_Right b with
    | false => rfl
    | true =>
      rw [Bool.not_true, forkB_false, forkB_false, mulw_v, obind_of, tW_wW]
      exact doP nw _
theorem do4 (nw : Bool) (a b : TSpan) (ha : IU64 a.Lo ∧ IU64 a.Hi) (hb : IU64 b.Lo ∧ IU64 b.Hi) : spanDo_g1 BIG 4 nw a b = some ((), (span_Do 4 nw a b, ())) := by
  have hr : ∀ w, rulesOf 4 w = some (span_work_div w) := fun w => by
    unfold rulesOf
    rw [if_neg (by decide : ¬ ((4 : Int) = 1)), if_neg (by decide : ¬ ((4 : Int) = 2)), if_neg (by decide : ¬ ((4 : Int) = 3)), if_pos (rfl : (4 : Int) = 4)]
  rw [doR 4 (by decide), hr, spanDo_g1_eq, span_rules_g1_eq, obind_of, if_neg (by decide : ¬ ((4 : Int) = 1)), if_neg (by decide : ¬ ((4 : Int) = 2)), if_neg (by decide : ¬ ((4 : Int) = 3)), if_pos (rfl : (4 : Int) = 4), right_v, obind_of, all_v, obind_of, right_v, obind_of, over_v, obind_of]
  cases h1 : span_Right a with
  | false => rfl
  | true =>
    cases h2 : span_Right b with
    | false => rfl
    | true =>
      rw [Bool.not_true, forkB_false, forkB_false, div_v, obind_of, tW_wW]
      exact doT nw _
theorem do5 (nw : Bool) (a b : TSpan) (ha : IU64 a.Lo ∧ IU64 a.Hi) (hb : IU64 b.Lo ∧ IU64 b.Hi) : spanDo_g1 BIG 5 nw a b = some ((), (span_Do 5 nw a b, ())) := by
  have hr : ∀ w, rulesOf 5 w = some (span_work_mod w) := fun w => by
    unfold rulesOf
    rw [if_neg (by decide : ¬ ((5 : Int) = 1)), if_neg (by decide : ¬ ((5 : Int) = 2)), if_neg (by decide : ¬ ((5 : Int) = 3)), if_neg (by decide : ¬ ((5 : Int) = 4)), if_pos (rfl : (5 : Int) = 5)]
  rw [doR 5 (by decide), hr, spanDo_g1_eq, span_rules_g1_eq, obind_of, if_neg (by decide : ¬ ((5 : Int) = 1)), if_neg (by decide : ¬ ((5 : Int) = 2)), if_neg (by decide : ¬ ((5 : Int) = 3)), if_neg (by decide : ¬ ((5 : Int) = 4)), if_pos (rfl : (5 : Int) = 5), right_v, obind_of, all_v, obind_of, right_v, obind_of, over_v, obind_of]
  cases h1 : span_Right a with
  | false => rfl
  | true =>
    cases h2 : span_Right b with
    | false => rfl
    | true =>
      rw [Bool.not_true, forkB_false, forkB_false, mod_v, obind_of, tW_wW]
      exact doT nw _
theorem do6 (nw : Bool) (a b : TSpan) (ha : IU64 a.Lo ∧ IU64 a.Hi) (hb : IU64 b.Lo ∧ IU64 b.Hi) : spanDo_g1 BIG 6 nw a b = some ((), (span_Do 6 nw a b, ())) := by
  have hr : ∀ w, rulesOf 6 w = some (span_work_and w) := fun w => by
    unfold rulesOf
    rw [if_neg (by decide : ¬ ((6 : Int) = 1)), if_neg (by decide : ¬ ((6 : Int) = 2)), if_neg (by decide : ¬ ((6 : Int) = 3)), if_neg (by decide : ¬ ((6 : Int) = 4)), if_neg (by decide : ¬ ((6 : Int) = 5)), if_pos (rfl : (6 : Int) = 6)]
  rw [doR 6 (by decide), hr, spanDo_g1_eq, span_rules_g1_eq, obind_of, if_neg (by decide : ¬ ((6 : Int) = 1)), if_neg (by decide : ¬ ((6 : Int) = 2)), if_neg (by decide : ¬ ((6 : Int) = 3)), if_neg (by decide : ¬ ((6 : Int) = 4)), if_neg (by decide : ¬ ((6 : Int) = 5)), if_pos (rfl : (6 : Int) = 6), right_v, obind_of, all_v, obind_of, right_v, obind_of, over_v, obind_of]
  cases h1 : span_Right a with
  | false => rfl
  | true =>
    cases h2 : span_Right b with
    | false => rfl
    | true =>
      rw [Bool.not_true, forkB_false, forkB_false, and_v, obind_of, tW_wW]
      exact doT nw _
theorem do7 (nw : Bool) (a b : TSpan) (ha : IU64 a.Lo ∧ IU64 a.Hi) (hb : IU64 b.Lo ∧ IU64 b.Hi) : spanDo_g1 BIG 7 nw a b = some ((), (span_Do 7 nw a b, ())) := by
  have hr : ∀ w, rulesOf 7 w = some (span_work_or w) := fun w => by
    unfold rulesOf
    rw [if_neg (by decide : ¬ ((7 : Int) = 1)), if_neg (by decide : ¬ ((7 : Int) = 2)), if_neg (by decide : ¬ ((7 : Int) = 3)), if_neg (by decide : ¬ ((7 : Int) = 4)), if_neg (by decide : ¬ ((7 : Int) = 5)), if_neg (by decide : ¬ ((7 : Int) = 6)), if_pos (rfl : (7 : Int) = 7)]
  rw [doR 7 (by decide), hr, spanDo_g1_eq, span_rules_g1_eq, obind_of, if_neg (by decide : ¬ ((7 : Int) = 1)), if_neg (by decide : ¬ ((7 : Int) = 2)), if_neg (by decide : ¬ ((7 : Int) = 3)), if_neg (by decide : ¬ ((7 : Int) = 4)), if_neg (by decide : ¬ ((7 : Int) = 5)), if_neg (by decide : ¬ ((7 : Int) = 6)), if_pos (rfl : (7 : Int) = 7), right_v, obind_of, all_v, obind_of, right_v, obind_of, over_v, obind_of]
  cases h1 : span_Right a with
  | false => rfl
  | true =>
    cases h2 : span_Right b with
    | false => rfl
    | true =>
      rw [Bool.not_true, forkB_false, forkB_false, or_v, obind_of, tW_wW]
      exact doT nw _
theorem do8 (nw : Bool) (a b : TSpan) (ha : IU64 a.Lo ∧ IU64 a.Hi) (hb : IU64 b.Lo ∧ IU64 b.Hi) : spanDo_g1 BIG 8 nw a b = some ((), (span_Do 8 nw a b, ())) := by
  have hr : ∀ w, rulesOf 8 w = some (span_work_xor w) := fun w => by
    unfold rulesOf
    rw [if_neg (by decide : ¬ ((8 : Int) = 1)), if_neg (by decide : ¬ ((8 : Int) = 2)), if_neg (by decide : ¬ ((8 : Int) = 3)), if_neg (by decide : ¬ ((8 : Int) = 4)), if_neg (by decide : ¬ ((8 : Int) = 5)), if_neg (by decide : ¬ ((8 : Int) = 6)), if_neg (by decide : ¬ ((8 : Int) = 7)), if_pos (rfl : (8 : Int) = 8)]
  rw [doR 8 (by decide), hr, spanDo_g1_eq, span_rules_g1_eq, obind_of, if_neg (by decide : ¬ ((8 : Int) = 1)), if_neg (by decide : ¬ ((8 : Int) = 2)), if_neg (by decide : ¬ ((8 : Int) = 3)), if_neg (by decide : ¬ ((8 : Int) = 4)), if_neg (by decide : ¬ ((8 : Int) = 5)), if_neg (by decide : ¬ ((8 : Int) = 6)), if_neg (by decide : ¬ ((8 : Int) = 7)), if_pos (rfl : (8 : Int) = 8), right_v, obind_of, all_v, obind_of, right_v, obind_of, over_v, obind_of]
  cases h1 : span_Right a with
  | false => rfl
  | true =>
    cases h2 : span_Right b with
    | false => rfl
    | true =>
      rw [Bool.not_true, forkB_false, forkB_false, xor_v, obind_of, tW_wW]
      exact doT nw _
theorem do9 (nw : Bool) (a b : TSpan) (ha : IU64 a.Lo ∧ IU64 a.Hi) (hb : IU64 b.Lo ∧ IU64 b.Hi) : spanDo_g1 BIG 9 nw a b = some ((), (span_Do 9 nw a b, ())) := by
  have hr : ∀ w, rulesOf 9 w = span_work_shl w := fun w => by
    unfold rulesOf
    rw [if_neg (by decide : ¬ ((9 : Int) = 1)), if_neg (by decide : ¬ ((9 : Int) = 2)), if_neg (by decide : ¬ ((9 : Int) = 3)), if_neg (by decide : ¬ ((9 : Int) = 4)), if_neg (by decide : ¬ ((9 : Int) = 5)), if_neg (by decide : ¬ ((9 : Int) = 6)), if_neg (by decide : ¬ ((9 : Int) = 7)), if_neg (by decide : ¬ ((9 : Int) = 8)), if_pos (rfl : (9 : Int) = 9)]
  rw [doR 9 (by decide), hr, spanDo_g1_eq, span_rules_g1_eq, obind_of, if_neg (by decide : ¬ ((9 : Int) = 1)), if_neg (by decide : ¬ ((9 : Int) = 2)), if_neg (by decide : ¬ ((9 : Int) = 3)), if_neg (by decide : ¬ ((9 : Int) = 4)), if_neg (by decide : ¬ ((9 : Int) = 5)), if_neg (by decide : ¬ ((9 : Int) = 6)), if_neg (by decide : ¬ ((9 : Int) = 7)), if_neg (by decide : ¬ ((9 : Int) = 8)), if_pos (rfl : (9 : Int) = 9), right_v, obind_of, all_v, obind_of, right_v, obind_of, over_v, obind_of]
  cases h1 : span_Right a with
  | false => rfl
  | true =>
    cases h2 : span_Right b with
    | false => rfl
    | true =>
      have hu := (cut_ok (nw := nw) ha (of_decide_eq_true h1)).u
      have hv := (cut_ok (nw := nw) hb (of_decide_eq_true h2)).u
      have hs : 0 < (wW nw (span_cut a nw) (span_cut b nw)).size := by unfold wW; cases nw; exact (by decide : (0 : Int) < 64); exact (by decide : (0 : Int) < 32)
      rw [Bool.not_true, forkB_false, forkB_false, shl_v _ hs hv.1.1, obind_of, tW_wW]
      exact doP nw _
theorem do10 (nw : Bool) (a b : TSpan) (ha : IU64 a.Lo ∧ IU64 a.Hi) (hb : IU64 b.Lo ∧ IU64 b.Hi) : spanDo_g1 BIG 10 nw a b = some ((), (span_Do 10 nw a b, ())) := by
  have hr : ∀ w, rulesOf 10 w = some (span_work_shr w) := fun w => by
    unfold rulesOf
    rw [if_neg (by decide : ¬ ((10 : Int) = 1)), if_neg (by decide : ¬ ((10 : Int) = 2)), if_neg (by decide : ¬ ((10 : Int) = 3)), if_neg (by decide : ¬ ((10 : Int) = 4)), if_neg (by decide : ¬ ((10 : Int) = 5)), if_neg (by decide : ¬ ((10 : Int) = 6)), if_neg (by decide : ¬ ((10 : Int) = 7)), if_neg (by decide : ¬ ((10 : Int) = 8)), if_neg (by decide : ¬ ((10 : Int) = 9)), if_pos (rfl : (10 : Int) = 10)]
  rw [doR 10 (by decide), hr, spanDo_g1_eq, span_rules_g1_eq, obind_of, if_neg (by decide : ¬ ((10 : Int) = 1)), if_neg (by decide : ¬ ((10 : Int) = 2)), if_neg (by decide : ¬ ((10 : Int) = 3)), if_neg (by decide : ¬ ((10 : Int) = 4)), if_neg (by decide : ¬ ((10 : Int) = 5)), if_neg (by decide : ¬ ((10 : Int) = 6)), if_neg (by decide : ¬ ((10 : Int) = 7)), if_neg (by decide : ¬ ((10 : Int) = 8)), if_neg (by decide : ¬ ((10 : Int) = 9)), if_pos (rfl : (10 : Int) = 10), right_v, obind_of, all_v, obind_of, right_v, obind_of, over_v, obind_of]
  cases h1 : span_Right a with
  | false => rfl
  | true =>
    cases h2 : span_Right b with
    | false => rfl
    | true =>
      have hu := (cut_ok (nw := nw) ha (of_decide_eq_true h1)).u
      have hv := (cut_ok (nw := nw) hb (of_decide_eq_true h2)).u
      have hs : 0 < (wW nw (span_cut a nw) (span_cut b nw)).size := by unfold wW; cases nw; exact (by decide : (0 : Int) < 64); exact (by decide : (0 : Int) < 32)
      rw [Bool.not_true, forkB_false, forkB_false, shr_v _ hs hv.1.1 hv.2.1, obind_of, tW_wW]
      exact doT nw _
theorem do11 (nw : Bool) (a b : TSpan) (ha : IU64 a.Lo ∧ IU64 a.Hi) (hb : IU64 b.Lo ∧ IU64 b.Hi) : spanDo_g1 BIG 11 nw a b = some ((), (span_Do 11 nw a b, ())) := by
  have hr : ∀ w, rulesOf 11 w = span_work_sar w := fun w => by
    unfold rulesOf
    rw [if_neg (by decide : ¬ ((11 : Int) = 1)), if_neg (by decide : ¬ ((11 : Int) = 2)), if_neg (by decide : ¬ ((11 : Int) = 3)), if_neg (by decide : ¬ ((11 : Int) = 4)), if_neg (by decide : ¬ ((11 : Int) = 5)), if_neg (by decide : ¬ ((11 : Int) = 6)), if_neg (by decide : ¬ ((11 : Int) = 7)), if_neg (by decide : ¬ ((11 : Int) = 8)), if_neg (by decide : ¬ ((11 : Int) = 9)), if_neg (by decide : ¬ ((11 : Int) = 10)), if_pos (rfl : (11 : Int) = 11)]
  rw [doR 11 (by decide), hr, spanDo_g1_eq, span_rules_g1_eq, obind_of, if_neg (by decide : ¬ ((11 : Int) = 1)), if_neg (by decide : ¬ ((11 : Int) = 2)), if_neg (by decide : ¬ ((11 : Int) = 3)), if_neg (by decide : ¬ ((11 : Int) = 4)), if_neg (by decide : ¬ ((11 : Int) = 5)), if_neg (by decide : ¬ ((11 : Int) = 6)), if_neg (by decide : ¬ ((11 : Int) = 7)), if_neg (by decide : ¬ ((11 : Int) = 8)), if_neg (by decide : ¬ ((11 : Int) = 9)), if_neg (by decide : ¬ ((11 : Int) = 10)), if_pos (rfl : (11 : Int) = 11), right_v, obind_of, all_v, obind_of, right_v, obind_of, over_v, obind_of]
  cases h1 : span_Right a with
  | false => rfl
  | true =>
    cases h2 : span_Right b with
    | false => rfl
    | true =>
      have hu := (cut_ok (nw := nw) ha (of_decide_eq_true h1)).u
      have hv := (cut_ok (nw := nw) hb (of_decide_eq_true h2)).u
      rw [Bool.not_true, forkB_false, forkB_false, sar_v _ hv.1.1, obind_of, tW_wW]
      exact doP nw _
theorem do12 (nw : Bool) (a b : TSpan) (ha : IU64 a.Lo ∧ IU64 a.Hi) (hb : IU64 b.Lo ∧ IU64 b.Hi) : spanDo_g1 BIG 12 nw a b = some ((), (span_Do 12 nw a b, ())) := by
  have hr : ∀ w, rulesOf 12 w = some (span_work_mov w) := fun w => by
    unfold rulesOf
    rw [if_neg (by decide : ¬ ((12 : Int) = 1)), if_neg (by decide : ¬ ((12 : Int) = 2)), if_neg (by decide : ¬ ((12 : Int) = 3)), if_neg (by decide : ¬ ((12 : Int) = 4)), if_neg (by decide : ¬ ((12 : Int) = 5)), if_neg (by decide : ¬ ((12 : Int) = 6)), if_neg (by decide : ¬ ((12 : Int) = 7)), if_neg (by decide : ¬ ((12 : Int) = 8)), if_neg (by decide : ¬ ((12 : Int) = 9)), if_neg (by decide : ¬ ((12 : Int) = 10)), if_neg (by decide : ¬ ((12 : Int) = 11)), if_pos (rfl : (12 : Int) = 12)]
  rw [doR 12 (by decide), hr, spanDo_g1_eq, span_rules_g1_eq, obind_of, if_neg (by decide : ¬ ((12 : Int) = 1)), if_neg (by decide : ¬ ((12 : Int) = 2)), if_neg (by decide : ¬ ((12 : Int) = 3)), if_neg (by decide : ¬ ((12 : Int) = 4)), if_neg (by decide : ¬ ((12 : Int) = 5)), if_neg (by decide : ¬ ((12 : Int) = 6)), if_neg (by decide : ¬ ((12 : Int) = 7)), if_neg (by decide : ¬ ((12 : Int) = 8)), if_neg (by decide : ¬ ((12 : Int) = 9)), if_neg (by decide : ¬ ((12 : Int) = 10)), if_neg (by decide : ¬ ((12 : Int) = 11)), if_pos (rfl : (12 : Int) = 12), right_v, obind_of, all_v, obind_of, right_v, obind_of, over_v, obind_of]
  cases h1 : span_Right a with
  | false => rfl
  | true =>
    cases h2 : span_Right b with
    | false => rfl
    | true =>
      rw [Bool.not_true, forkB_false, forkB_false, mov_v, obind_of, tW_wW]
      exact doT nw _
theorem do13 (nw : Bool) (a b : TSpan) (ha : IU64 a.Lo ∧ IU64 a.Hi) (hb : IU64 b.Lo ∧ IU64 b.Hi) : spanDo_g1 BIG 13 nw a b = some ((), (span_Do 13 nw a b, ())) := by
  have hr : ∀ w, rulesOf 13 w = span_work_neg w := fun w => by
    unfold rulesOf
    rw [if_neg (by decide : ¬ ((13 : Int) = 1)), if_neg (by decide : ¬ ((13 : Int) = 2)), if_neg (by decide : ¬ ((13 : Int) = 3)), if_neg (by decide : ¬ ((13 : Int) = 4)), if_neg (by decide : ¬ ((13 : Int) = 5)), if_neg (by decide : ¬ ((13 : Int) = 6)), if_neg (by decide : ¬ ((13 : Int) = 7)), if_neg (by decide : ¬ ((13 : Int) = 8)), if_neg (by decide : ¬ ((13 : Int) = 9)), if_neg (by decide : ¬ ((13 : Int) = 10)), if_neg (by decide : ¬ ((13 : Int) = 11)), if_neg (by decide : ¬ ((13 : Int) = 12))]
  rw [doR 13 (by decide), hr, spanDo_g1_eq, span_rules_g1_eq, obind_of, if_neg (by decide : ¬ ((13 : Int) = 1)), if_neg (by decide : ¬ ((13 : Int) = 2)), if_neg (by decide : ¬ ((13 : Int) = 3)), if_neg (by decide : ¬ ((13 : Int) = 4)), if_neg (by decide : ¬ ((13 : Int) = 5)), if_neg (by decide : ¬ ((13 : Int) = 6)), if_neg (by decide : ¬ ((13 : Int) = 7)), if_neg (by decide : ¬ ((13 : Int) = 8)), if_neg (by decide : ¬ ((13 : Int) = 9)), if_neg (by decide : ¬ ((13 : Int) = 10)), if_neg (by decide : ¬ ((13 : Int) = 11)), if_neg (by decide : ¬ ((13 : Int) = 12)), if_pos (rfl : (13 : Int) = 13), right_v, obind_of, all_v, obind_of, right_v, obind_of, over_v, obind_of]
  cases h1 : span_Right a with
  | false => rfl
  | true =>
    cases h2 : span_Right b with
    | false => rfl
    | true =>
      rw [Bool.not_true, forkB_false, forkB_false, neg_v, obind_of, tW_wW]
      exact doP nw _
theorem do_v (op : Int) (nw : Bool) (a b : TSpan) (ha : IU64 a.Lo ∧ IU64 a.Hi) (hb : IU64 b.Lo ∧ IU64 b.Hi) : spanDo_g1 BIG op nw a b = some ((), (span_Do op nw a b, ())) := by
  by_cases h1 : op = 1
  · subst h1; exact do1 nw a b ha hb
  by_cases h2 : op = 2
  · subst h2; exact do2 nw a b ha hb
  by_cases h3 : op = 3
  · subst h3; exact do3 nw a b ha hb
  by_cases h4 : op = 4
  · subst h4; exact do4 nw a b ha hb
  by_cases h5 : op = 5
  · subst h5; exact do5 nw a b ha hb
  by_cases h6 : op = 6
  · subst h6; exact do6 nw a b ha hb
  by_cases h7 : op = 7
  · subst h7; exact do7 nw a b ha hb
  by_cases h8 : op = 8
  · subst h8; exact do8 nw a b ha hb
  by_cases h9 : op = 9
  · subst h9; exact do9 nw a b ha hb
  by_cases h10 : op = 10
  · subst h10; exact do10 nw a b ha hb
  by_cases h11 : op = 11
  · subst h11; exact do11 nw a b ha hb
  by_cases h12 : op = 12
  · subst h12; exact do12 nw a b ha hb
  by_cases h13 : op = 13
  · subst h13; exact do13 nw a b ha hb
  rw [spanDo_g1_eq, span_rules_g1_eq, obind_of, if_neg h1, if_neg h2, if_neg h3, if_neg h4, if_neg h5, if_neg h6, if_neg h7, if_neg h8, if_neg h9, if_neg h10, if_neg h11, if_neg h12, if_neg h13, all_v, obind_of, span_Do_eq, if_neg (fun h => by have := h.1; omega), all_eq]
end Go.Y

/- What the document says a question leaves of spans: in plain words. -/
namespace Go.Y
open Go.RowKit Go.V Go.X Go.Proofs

/-- an answer that says what it says if it may be. -/
def AskR (o : Option (TSpan × TSpan)) (r : Span × Span × Bool) : Prop := match o with | some p => r = (p.1, p.2, true) | none => r.2.2 = false
theorem most_le (nw : Bool) : mostI nw ≤ 18446744073709551615 := by cases nw <;> decide
theorem meet_v (u v : TSpan) : X.ref11Meet BIG u v = some (if max u.Lo v.Lo ≤ min u.Hi v.Hi then ((⟨max u.Lo v.Lo, min u.Hi v.Hi⟩ : Span), true) else ((⟨0, 0⟩ : Span), false)) := by
  rw [X.ref11Meet_eq, rright_v, obind_of, gMax_eq, gMin_eq, forkB_some]
  unfold ref11_Right
  by_cases h : max u.Lo v.Lo ≤ min u.Hi v.Hi
  · rw [if_pos h, show decide ((⟨max u.Lo v.Lo, min u.Hi v.Hi⟩ : TSpan).Lo ≤ (⟨max u.Lo v.Lo, min u.Hi v.Hi⟩ : TSpan).Hi) = true from decide_eq_true h]; rfl
  · rw [if_neg h, show decide ((⟨max u.Lo v.Lo, min u.Hi v.Hi⟩ : TSpan).Lo ≤ (⟨max u.Lo v.Lo, min u.Hi v.Hi⟩ : TSpan).Hi) = false from decide_eq_false h]; rfl
theorem rwithout_v {nw : Bool} (s : TSpan) (x : Int) (hs : SpOk nw s) : X.ref11_without BIG s x = some (woE s ⟨x, x⟩) := by
  obtain ⟨n, e⟩ : ∃ n : Nat, (BIG : Nat) = n + 1 := ⟨999999999, rfl⟩
  have h1 := hs.lo; have h2 := hs.le; have h3 := hs.hi; have h4 := most_le nw
  rw [X.ref11_without_eq, rsingle_v, obind_of, e, X.ref11_without_J0_eq, X.ref11_without_J0_eq, single_iff]
  unfold woE
  by_cases hh : s.Lo = s.Hi
  · rw [decide_eq_true hh, forkB_true, if_pos (.inl hh)]
  · rw [decide_eq_false hh, forkB_false, if_neg (c := s.Lo = s.Hi ∨ x ≠ x) (fun h => h.elim hh (fun h => h rfl))]
    by_cases hl : s.Lo = x
    · rw [show (s.Lo == x) = true by simp [hl], forkB_true, wrapU64 (x := s.Lo + 1) (by omega), show (s.Hi == x) = false by simp; omega, forkB_false, if_pos hl, if_neg (show ¬ s.Hi = x by omega)]
    · rw [show (s.Lo == x) = false by simp [hl], forkB_false, if_neg hl]
      by_cases hr : s.Hi = x
      · rw [show (s.Hi == x) = true by simp [hr], forkB_true, wrapU64 (x := s.Hi - 1) (by omega), if_pos hr]
      · rw [show (s.Hi == x) = false by simp [hr], forkB_false, if_neg hr]
theorem wo_one (s t : TSpan) : woE s t = if t.Lo = t.Hi then woE s ⟨t.Lo, t.Lo⟩ else s := by
  unfold woE
  by_cases h : t.Lo = t.Hi
  · rw [if_pos h]; simp [h]
  · rw [if_neg h, if_pos (.inr h)]
theorem asked_r (op : Int) {nw : Bool} (u v : TSpan) (hop : op = 19 ∨ op = 20) (hu : SpOk nw u) (hv : SpOk nw v) : ∃ r, X.ref11_asked_r BIG op u v = some r ∧ AskR (if op = 19 then gtE u v else geE u v) r := by
  have h1 := hu.lo; have h2 := hu.le; have h3 := hu.hi; have h4 := most_le nw
  have g1 := hv.lo; have g2 := hv.le; have g3 := hv.hi
  rcases hop with rfl | rfl
  · rw [X.ref11_asked_r_eq, show ((19 : Int) == 17) = false from rfl, show ((19 : Int) == 18) = false from rfl, show ((19 : Int) == 19) = true from rfl, forkB_false, forkB_false, forkB_true, if_pos rfl, gMax_eq, gMin_eq]
    unfold gtE
    by_cases h : u.Hi ≤ v.Lo
    · rw [decide_eq_true h, forkB_true, if_neg (by omega)]; exact ⟨_, rfl, rfl⟩
    · rw [decide_eq_false h, forkB_false, if_pos (by omega), wrapU64 (x := v.Lo + 1) (by omega), wrapU64 (x := u.Hi - 1) (by omega)]; exact ⟨_, rfl, rfl⟩
  · rw [X.ref11_asked_r_eq, show ((20 : Int) == 17) = false from rfl, show ((20 : Int) == 18) = false from rfl, show ((20 : Int) == 19) = false from rfl, show ((20 : Int) == 20) = true from rfl, forkB_false, forkB_false, forkB_false, forkB_true, if_neg (by decide), gMax_eq, gMin_eq]
    unfold geE
    by_cases h : u.Hi ≥ v.Lo
    · rw [decide_eq_true h, if_pos h]; exact ⟨_, rfl, rfl⟩
    · rw [decide_eq_false h, if_neg h]; exact ⟨_, rfl, rfl⟩
theorem AskR.swap {o : Option (TSpan × TSpan)} {r : Span × Span × Bool} (h : AskR o r) : AskR (swapE o) (r.2.1, r.1, r.2.2) := by
  cases o with
  | none => exact h
  | some p => have h : r = (p.1, p.2, true) := h; subst h; rfl
theorem asked_v (op : Int) {nw : Bool} (u v : TSpan) (hop : 17 ≤ op ∧ op ≤ 22) (hu : SpOk nw u) (hv : SpOk nw v) : ∃ r, X.ref11_asked BIG op u v = some r ∧ AskR (plainE op u v) r := by
  obtain ⟨n, e⟩ : ∃ n : Nat, (BIG : Nat) = n + 1 + 1 + 1 := ⟨999999997, rfl⟩
  have h1 := hu.lo; have h2 := hu.le; have h3 := hu.hi; have h4 := most_le nw
  have g1 := hv.lo; have g2 := hv.le; have g3 := hv.hi
  rw [X.ref11_asked_eq]
  unfold plainE
  by_cases k1 : op = 17
  · subst k1
    rw [show ((17 : Int) == 17) = true from rfl, forkB_true, meet_v, obind_of, if_pos rfl]
    by_cases h : max u.Lo v.Lo ≤ min u.Hi v.Hi
    · rw [if_pos h, if_pos h]; exact ⟨_, rfl, rfl⟩
    · rw [if_neg h, if_neg h]; exact ⟨_, rfl, rfl⟩
  rw [show (op == 17) = false by simpa using k1, forkB_false, if_neg k1]
  by_cases k2 : op = 18
  · subst k2
    have j2 : ∀ (m : Nat) (c : Bool) (x y : TSpan), X.ref11_asked_J2 (m + 1) c x.Lo x.Hi y.Lo y.Hi = some (x, y, c) := fun m c x y => by rw [X.ref11_asked_J2_eq]
    have su : X.ref11_single BIG (⟨u.Lo, u.Hi⟩ : Span) = some (ref11_single u) := rsingle_v u
    have sv : X.ref11_single BIG (⟨v.Lo, v.Hi⟩ : Span) = some (ref11_single v) := rsingle_v v
    have j1 : ∀ (x y : TSpan), X.ref11_asked_J1 (n + 1 + 1) u.Lo u.Hi v.Lo v.Hi 0 0 0 0 x.Lo x.Hi y.Lo y.Hi = some (x, y, !(decide (u.Lo = u.Hi ∧ v.Lo = v.Hi ∧ u.Lo = v.Lo))) := fun x y => by
      rw [X.ref11_asked_J1_eq, su, obind_of, sv, obind_of, j2, j2, single_iff, single_iff, forkB_some, forkB_some]
      by_cases a1 : u.Lo = u.Hi
      · by_cases a2 : v.Lo = v.Hi
        · by_cases a3 : u.Lo = v.Lo
          · rw [decide_eq_true a1, decide_eq_true a2, decide_eq_true ⟨a1, a2, a3⟩, show (u.Lo != v.Lo) = false by simp [a3]]; rfl
          · rw [decide_eq_true a1, decide_eq_true a2, decide_eq_false (fun h => a3 h.2.2), show (u.Lo != v.Lo) = true by simp [a3]]; rfl
        · rw [decide_eq_true a1, decide_eq_false a2, decide_eq_false (p := u.Lo = u.Hi ∧ v.Lo = v.Hi ∧ u.Lo = v.Lo) (fun h => a2 h.2.1)]; rfl
      · rw [decide_eq_false a1, decide_eq_false (p := u.Lo = u.Hi ∧ v.Lo = v.Hi ∧ u.Lo = v.Lo) (fun h => a1 h.1)]; rfl
    have wv : X.ref11_without BIG (⟨v.Lo, v.Hi⟩ : Span) u.Lo = some (woE v ⟨u.Lo, u.Lo⟩) := rwithout_v v u.Lo hv
    have j0 : ∀ (x : TSpan), X.ref11_asked_J0 (n + 1 + 1 + 1) u.Lo u.Hi v.Lo v.Hi 0 0 0 0 x.Lo x.Hi v.Lo v.Hi = some (x, woE v u, !(decide (u.Lo = u.Hi ∧ v.Lo = v.Hi ∧ u.Lo = v.Lo))) := fun x => by
      rw [X.ref11_asked_J0_eq, su, obind_of, wv, obind_of, j1, j1, forkB_some, single_iff, wo_one v u]
      by_cases a1 : u.Lo = u.Hi
      · rw [if_pos a1, decide_eq_true a1, if_pos rfl]
      · rw [if_neg a1, decide_eq_false a1, if_neg (by decide)]
    rw [show ((18 : Int) == 18) = true from rfl, forkB_true, rsingle_v, obind_of, rwithout_v u v.Lo hu, obind_of, e, j0, j0, forkB_some, single_iff, if_pos rfl]
    by_cases a : u.Lo = u.Hi ∧ v.Lo = v.Hi ∧ u.Lo = v.Lo
    · rw [if_pos a, decide_eq_true a]
      refine ⟨_, rfl, ?_⟩
      unfold AskR
      cases decide (v.Lo = v.Hi) <;> rfl
    · rw [if_neg a, decide_eq_false a]
      refine ⟨_, rfl, ?_⟩
      show (if decide (v.Lo = v.Hi) = true then _ else _) = _
      rw [wo_one u v]
      by_cases b : v.Lo = v.Hi
      · rw [if_pos b, decide_eq_true b, if_pos rfl]; rfl
      · rw [if_neg b, decide_eq_false b, if_neg (by decide)]; rfl
  rw [show (op == 18) = false by simpa using k2, forkB_false, if_neg k2]
  by_cases k3 : op = 19
  · subst k3
    rw [show ((19 : Int) == 19) = true from rfl, forkB_true, if_pos rfl, gMax_eq, gMin_eq]
    unfold gtE
    by_cases h : u.Hi ≤ v.Lo
    · rw [decide_eq_true h, forkB_true, if_neg (by omega)]; exact ⟨_, rfl, rfl⟩
    · rw [decide_eq_false h, forkB_false, if_pos (by omega), wrapU64 (x := v.Lo + 1) (by omega), wrapU64 (x := u.Hi - 1) (by omega)]; exact ⟨_, rfl, rfl⟩
  rw [show (op == 19) = false by simpa using k3, forkB_false, if_neg k3]
  by_cases k4 : op = 20
  · subst k4
    rw [show ((20 : Int) == 20) = true from rfl, forkB_true, if_pos rfl, gMax_eq, gMin_eq]
    unfold geE
    by_cases h : u.Hi ≥ v.Lo
    · rw [decide_eq_true h, if_pos h]; exact ⟨_, rfl, rfl⟩
    · rw [decide_eq_false h, if_neg h]; exact ⟨_, rfl, rfl⟩
  rw [show (op == 20) = false by simpa using k4, forkB_false, if_neg k4]
  by_cases k5 : op = 21
  · subst k5
    obtain ⟨r, r1, r2⟩ := asked_r 19 v u (.inl rfl) hv hu
    rw [show ((21 : Int) == 21) = true from rfl, forkB_true, r1, obind_of, if_pos rfl]
    exact ⟨_, rfl, AskR.swap r2⟩
  · obtain ⟨r, r1, r2⟩ := asked_r 20 v u (.inr rfl) hv hu
    rw [show (op == 21) = false by simpa using k5, forkB_false, r1, obind_of, if_neg k5]
    exact ⟨_, rfl, AskR.swap r2⟩
end Go.Y

/- What the document says a question leaves of spans, whole. -/
namespace Go.Y
open Go.RowKit Go.V Go.X Go.Proofs

theorem rneg (nw : Bool) (x : Int) (h : 0 ≤ x ∧ x ≤ mostI nw) : X.ref11_below BIG x nw = some (negB nw x) := by rw [rbelow_v, rbelow_eq h]; rfl
theorem signed_v (op : Int) {nw : Bool} (u v : TSpan) (hop : 23 ≤ op ∧ op ≤ 26) (hu : SpOk nw u) (hv : SpOk nw v) : ∃ r, X.ref11_signed BIG op nw u v = some r ∧ AskR (signedE nw op u v) r := by
  obtain ⟨n, e⟩ : ∃ n : Nat, (BIG : Nat) = n + 1 + 1 := ⟨999999998, rfl⟩
  have h1 := hu.lo; have h2 := hu.le; have h3 := hu.hi; have h4 := most_le nw
  have g1 := hv.lo; have g2 := hv.le; have g3 := hv.hi
  have nu := rneg nw u.Lo (by omega); have nU := rneg nw u.Hi (by omega); have nv := rneg nw v.Lo (by omega); have nV := rneg nw v.Hi (by omega)
  have jt : X.ref11_signed_J0 (n + 1 + 1) op nw true u.Lo u.Hi v.Lo v.Hi 0 0 0 0 = some (u, v, true) := by rw [X.ref11_signed_J0_eq, forkB_true]
  have j1 : ∀ c, X.ref11_signed_J1 (n + 1) nw c u.Lo u.Hi v.Lo v.Hi 0 0 0 0 = some (u, v, !(c == negB nw u.Lo)) := fun c => by rw [X.ref11_signed_J1_eq, nu, obind_of]
  rw [X.ref11_signed_eq, nu, obind_of, nU, obind_of, nv, obind_of, nV, obind_of, e, jt]
  unfold signedE
  by_cases a1 : negB nw u.Lo = negB nw u.Hi
  · by_cases a2 : negB nw v.Lo = negB nw v.Hi
    · rw [show (!(negB nw u.Lo == negB nw u.Hi)) = false by rw [a1]; simp, show (!(negB nw v.Lo == negB nw v.Hi)) = false by rw [a2]; simp, forkB_false, X.ref11_signed_J0_eq, forkB_false, nu, obind_of, nv, obind_of, if_neg (fun h => h.elim (fun h => h a1) (fun h => h a2))]
      by_cases a3 : negB nw u.Lo = negB nw v.Lo
      · obtain ⟨r, r1, r2⟩ := asked_v (op - 4) u v (by omega) hu hv
        have ew : IntKind.u8.wrap (IntKind.u8.wrap (op - 23) + 19) = op - 4 := by rw [wrapU8_eq, wrapU8_eq]; omega
        have e2 : X.ref11_asked BIG (op - 4) (⟨u.Lo, u.Hi⟩ : Span) (⟨v.Lo, v.Hi⟩ : Span) = some r := r1
        rw [show (negB nw u.Lo == negB nw v.Lo) = true by simp [a3], forkB_true, ew, e2, obind_of, if_pos a3]
        exact ⟨r, rfl, r2⟩
      · rw [show (negB nw u.Lo == negB nw v.Lo) = false by simp [a3], forkB_false, j1, j1, if_neg a3, forkB_some]
        refine ⟨_, rfl, ?_⟩
        have hc : (if (op == (23 : Int)) = true then ((u : Span), (v : Span), !(true == negB nw u.Lo)) else (u, v, !((op == (24 : Int)) == negB nw u.Lo))) = (u, v, !(decide (op = 23 ∨ op = 24) == negB nw u.Lo)) := by
          by_cases k : op = 23
          · rw [if_pos (by simp [k]), decide_eq_true (.inl k)]
          · rw [if_neg (by simpa using k), show (op == (24 : Int)) = decide (op = 23 ∨ op = 24) by by_cases k2 : op = 24 <;> simp [k, k2]]
        rw [hc]
        by_cases k : op = 23 ∨ op = 24
        · cases hx : negB nw u.Lo <;> cases hy : negB nw v.Lo <;> simp_all [AskR]
        · cases hx : negB nw u.Lo <;> cases hy : negB nw v.Lo <;> simp_all [AskR]
    · rw [show (!(negB nw u.Lo == negB nw u.Hi)) = false by rw [a1]; simp, show (!(negB nw v.Lo == negB nw v.Hi)) = true by simp [a2], forkB_false, jt, if_pos (.inr a2)]
      exact ⟨_, rfl, rfl⟩
  · rw [show (!(negB nw u.Lo == negB nw u.Hi)) = true by simp [a1], forkB_true, if_pos (.inl a1)]
    exact ⟨_, rfl, rfl⟩
theorem set_v (yes : Bool) {nw : Bool} (u v : TSpan) (hu : SpOk nw u) (hv : SpOk nw v) : ∃ r, X.ref11_set BIG yes u v = some r ∧ AskR (setE yes u v) r := by
  obtain ⟨n, e⟩ : ∃ n : Nat, (BIG : Nat) = n + 1 + 1 := ⟨999999998, rfl⟩
  have h1 := hu.lo; have h2 := hu.le; have g1 := hv.lo; have g2 := hv.le
  have hb := bAnd64 hu.u.1 hv.u.1
  have e0 : (bAnd .u64 u.Lo v.Lo == (0 : Int)) = decide (u.Lo.toNat &&& v.Lo.toNat = 0) := by
    rw [hb]
    by_cases k : u.Lo.toNat &&& v.Lo.toNat = 0
    · rw [k]; rfl
    · rw [decide_eq_false k]; simp; omega
  have hj : X.ref11_set BIG yes u v = X.ref11_set_J0 (n + 1 + 1) yes (decide (u.Lo = u.Hi ∧ v.Lo = v.Hi)) u.Lo u.Hi v.Lo v.Hi 0 0 0 0 := by
    rw [X.ref11_set_eq, rsingle_v, obind_of, rsingle_v, obind_of, e, single_iff, single_iff]
    by_cases a1 : u.Lo = u.Hi
    · rw [decide_eq_true a1, forkB_true]
      by_cases a2 : v.Lo = v.Hi
      · rw [decide_eq_true a2, decide_eq_true (p := u.Lo = u.Hi ∧ v.Lo = v.Hi) ⟨a1, a2⟩]
      · rw [decide_eq_false a2, decide_eq_false (p := u.Lo = u.Hi ∧ v.Lo = v.Hi) (fun h => a2 h.2)]
    · rw [decide_eq_false a1, forkB_false, decide_eq_false (p := u.Lo = u.Hi ∧ v.Lo = v.Hi) (fun h => a1 h.1)]
  have t1 : ∀ c, X.ref11_set_J1 (n + 1) c u.Lo u.Hi v.Lo v.Hi = some (u, v, c) := fun c => by rw [X.ref11_set_J1_eq]
  have t2 : ∀ c, X.ref11_set_J2 (n + 1) c u.Lo u.Hi v.Lo v.Hi 0 0 0 0 = some (if c = true then (u, v, false) else (⟨max u.Lo 1, u.Hi⟩, ⟨max v.Lo 1, v.Hi⟩, true)) := fun c => by rw [X.ref11_set_J2_eq, gMax_eq, gMax_eq, forkB_some]
  rw [hj, X.ref11_set_J0_eq, t1, t1, t2, t2, t2, e0]
  unfold setE
  cases yes with
  | false =>
    rw [Bool.not_false, forkB_true, if_pos rfl]
    by_cases a : u.Lo = u.Hi ∧ v.Lo = v.Hi
    · rw [decide_eq_true a, Bool.not_true, forkB_false]
      by_cases k : u.Lo.toNat &&& v.Lo.toNat = 0
      · rw [if_neg (fun h => h.2.2 k), decide_eq_true k]; exact ⟨_, rfl, rfl⟩
      · rw [if_pos ⟨a.1, a.2, k⟩, decide_eq_false k]; exact ⟨_, rfl, rfl⟩
    · rw [decide_eq_false a, Bool.not_false, forkB_true, if_neg (fun h => a ⟨h.1, h.2.1⟩)]; exact ⟨_, rfl, rfl⟩
  | true =>
    rw [Bool.not_true, forkB_false, if_neg (show ¬ (true = false) by decide)]
    by_cases k1 : u.Hi = 0
    · rw [show (u.Hi == 0) = true by simp [k1], forkB_true, if_neg (c := u.Hi > 0 ∧ v.Hi > 0 ∧ ¬ (u.Lo = u.Hi ∧ v.Lo = v.Hi ∧ u.Lo.toNat &&& v.Lo.toNat = 0)) (fun h => by have := h.1; omega)]; exact ⟨_, rfl, rfl⟩
    · rw [show (u.Hi == 0) = false by simp [k1], forkB_false]
      by_cases k2 : v.Hi = 0
      · rw [show (v.Hi == 0) = true by simp [k2], forkB_true, if_neg (c := u.Hi > 0 ∧ v.Hi > 0 ∧ ¬ (u.Lo = u.Hi ∧ v.Lo = v.Hi ∧ u.Lo.toNat &&& v.Lo.toNat = 0)) (fun h => by have := h.2.1; omega)]; exact ⟨_, rfl, rfl⟩
      · rw [show (v.Hi == 0) = false by simp [k2], forkB_false]
        by_cases a : u.Lo = u.Hi ∧ v.Lo = v.Hi
        · rw [decide_eq_true a, forkB_true]
          by_cases k : u.Lo.toNat &&& v.Lo.toNat = 0
          · rw [if_neg (c := u.Hi > 0 ∧ v.Hi > 0 ∧ ¬ (u.Lo = u.Hi ∧ v.Lo = v.Hi ∧ u.Lo.toNat &&& v.Lo.toNat = 0)) (fun h => h.2.2 ⟨a.1, a.2, k⟩), decide_eq_true k]; exact ⟨_, rfl, rfl⟩
          · rw [if_pos (c := u.Hi > 0 ∧ v.Hi > 0 ∧ ¬ (u.Lo = u.Hi ∧ v.Lo = v.Hi ∧ u.Lo.toNat &&& v.Lo.toNat = 0)) ⟨by omega, by omega, fun h => k h.2.2⟩, decide_eq_false k]; exact ⟨_, rfl, rfl⟩
        · rw [decide_eq_false a, forkB_false, if_pos (c := u.Hi > 0 ∧ v.Hi > 0 ∧ ¬ (u.Lo = u.Hi ∧ v.Lo = v.Hi ∧ u.Lo.toNat &&& v.Lo.toNat = 0)) ⟨by omega, by omega, fun h => a ⟨h.1, h.2.1⟩⟩]; exact ⟨_, rfl, rfl⟩
theorem opp_v (op : Int) (hop : 17 ≤ op ∧ op ≤ 26) : X.ref11_opposite BIG op = some (oppE op) := by
  rw [X.ref11_opposite_eq]
  simp only [forkB_some]
  unfold oppE
  simp only [beq_iff_eq]
/-- how a question's answer is told. -/
def finE (nw : Bool) (a b : TSpan) (o : Option (TSpan × TSpan)) : Span × Span × Bool := match o with | none => (⟨0, 0⟩, ⟨0, 0⟩, false) | some x => (if a.Hi > mostI nw then a else x.1, if b.Hi > mostI nw then b else x.2, true)
theorem rmost_m (nw : Bool) : X.ref11_most BIG nw = some (mostI nw) := by rw [rmost_v]; cases nw <;> rfl
theorem if_fin (n : Nat) (nw : Bool) (a b : TSpan) (o : Option (TSpan × TSpan)) (r : Span × Span × Bool) (h : AskR o r) :
    X.ref11If_J3 (n + 1 + 1) nw r.2.2 a.Lo a.Hi b.Lo b.Hi 0 0 0 0 r.1.Lo r.1.Hi r.2.1.Lo r.2.1.Hi = some (finE nw a b o) := by
  have j4 : ∀ x : TSpan, X.ref11If_J4 (n + 1) nw b.Lo b.Hi 0 0 0 0 x.Lo x.Hi r.2.1.Lo r.2.1.Hi = some (x, if b.Hi > mostI nw then b else r.2.1, true) := fun x => by
    rw [X.ref11If_J4_eq, rmost_m, obind_of, forkB_some]
    by_cases k : b.Hi > mostI nw
    · rw [decide_eq_true k, if_pos rfl, if_pos k]
    · rw [decide_eq_false k, if_neg (by decide), if_neg k]
  rw [X.ref11If_J3_eq, rmost_m, obind_of, j4 a, j4 r.1, forkB_some, forkB_some]
  cases o with
  | none => have h : r.2.2 = false := h; rw [h]; rfl
  | some p =>
    have h : r = (p.1, p.2, true) := h
    subst h
    show some (if decide (a.Hi > mostI nw) = true then _ else _) = _
    unfold finE
    by_cases k : a.Hi > mostI nw
    · rw [decide_eq_true k, if_pos rfl]; simp only [if_pos k]
    · rw [decide_eq_false k, if_neg (by decide)]; simp only [if_neg k]
end Go.Y

/- The document's questions, whole. -/
namespace Go.Y
open Go.RowKit Go.V Go.X Go.Proofs

theorem oppE_rng {op : Int} (hop : 17 ≤ op ∧ op ≤ 26) : 17 ≤ oppE op ∧ oppE op ≤ 26 := by
  unfold oppE
  repeat' split
  all_goals omega
def ifE (op : Int) (nw yes : Bool) (a b : TSpan) : Span × Span × Bool := if (17 ≤ op ∧ op ≤ 27) ∧ a.Lo ≤ a.Hi ∧ b.Lo ≤ b.Hi then finE nw a b (askE nw op yes (span_cut a nw) (span_cut b nw)) else (a, b, true)
theorem rif_in (n : Nat) (op : Int) (nw yes : Bool) (a b : TSpan) (hop : 17 ≤ op ∧ op ≤ 27) (hu : SpOk nw (span_cut a nw)) (hv : SpOk nw (span_cut b nw)) :
    X.ref11If_J0 (n + 1 + 1 + 1 + 1 + 1) op nw yes false a.Lo a.Hi b.Lo b.Hi 0 0 0 0 = some (finE nw a b (askE nw op yes (span_cut a nw) (span_cut b nw))) := by
  have ea : X.ref11_cut BIG (⟨a.Lo, a.Hi⟩ : Span) nw = some (span_cut a nw) := by rw [← cut_same]; exact rcut_v a nw
  have eb : X.ref11_cut BIG (⟨b.Lo, b.Hi⟩ : Span) nw = some (span_cut b nw) := by rw [← cut_same]; exact rcut_v b nw
  have j1 : ∀ p : Int, 17 ≤ p ∧ p ≤ 27 → X.ref11If_J1 (n + 1 + 1 + 1) p nw yes a.Lo a.Hi b.Lo b.Hi 0 0 0 0 (span_cut a nw).Lo (span_cut a nw).Hi (span_cut b nw).Lo (span_cut b nw).Hi 0 0 0 0 =
      some (finE nw a b (if p = 27 then setE yes (span_cut a nw) (span_cut b nw) else if p ≥ 23 then signedE nw p (span_cut a nw) (span_cut b nw) else plainE p (span_cut a nw) (span_cut b nw))) := fun p hp => by
    rw [X.ref11If_J1_eq]
    by_cases k : p = 27
    · obtain ⟨r, r1, r2⟩ := set_v yes (span_cut a nw) (span_cut b nw) hu hv
      have r1 : X.ref11_set BIG yes (⟨(span_cut a nw).Lo, (span_cut a nw).Hi⟩ : Span) (⟨(span_cut b nw).Lo, (span_cut b nw).Hi⟩ : Span) = some r := r1
      rw [show (p == (27 : Int)) = true by simp [k], forkB_true, r1, obind_of, if_fin n nw a b _ r r2, if_pos k]
    · rw [show (p == (27 : Int)) = false by simp [k], forkB_false, if_neg k]
      by_cases k2 : p ≥ 23
      · obtain ⟨r, r1, r2⟩ := signed_v p (span_cut a nw) (span_cut b nw) (by omega) hu hv
        have r1 : X.ref11_signed BIG p nw (⟨(span_cut a nw).Lo, (span_cut a nw).Hi⟩ : Span) (⟨(span_cut b nw).Lo, (span_cut b nw).Hi⟩ : Span) = some r := r1
        rw [decide_eq_true k2, forkB_true, r1, obind_of, if_fin n nw a b _ r r2, if_pos k2]
      · obtain ⟨r, r1, r2⟩ := asked_v p (span_cut a nw) (span_cut b nw) (by omega) hu hv
        have r1 : X.ref11_asked BIG p (⟨(span_cut a nw).Lo, (span_cut a nw).Hi⟩ : Span) (⟨(span_cut b nw).Lo, (span_cut b nw).Hi⟩ : Span) = some r := r1
        rw [decide_eq_false k2, forkB_false, r1, obind_of, if_fin n nw a b _ r r2, if_neg k2]
  rw [X.ref11If_J0_eq, forkB_false, ea, obind_of, eb, obind_of]
  unfold askE
  by_cases k : op = 27
  · rw [show (op != (27 : Int)) = false by simp [k], forkB_false, X.ref11If_J2_eq, forkB_false, j1 op hop, if_pos k, if_pos k]
  · rw [show (op != (27 : Int)) = true by simp [k], forkB_true, X.ref11If_J2_eq, if_neg k]
    cases yes with
    | true => rw [Bool.not_true, forkB_false, j1 op hop, if_neg k, if_pos rfl]
    | false =>
      have ho := oppE_rng (op := op) (by omega)
      rw [Bool.not_false, forkB_true, opp_v op (by omega), obind_of, j1 _ (by omega), if_neg (by omega), if_neg (show ¬ (false = true) by decide)]
theorem rif_v (op : Int) (nw yes : Bool) (a b : TSpan) (ha : IU64 a.Lo ∧ IU64 a.Hi) (hb : IU64 b.Lo ∧ IU64 b.Hi) : X.ref11If BIG op nw yes a b = some (ifE op nw yes a b) := by
  obtain ⟨n, e⟩ : ∃ n : Nat, (BIG : Nat) = n + 1 + 1 + 1 + 1 + 1 := ⟨999999995, rfl⟩
  have jt : X.ref11If_J0 (n + 1 + 1 + 1 + 1 + 1) op nw yes true a.Lo a.Hi b.Lo b.Hi 0 0 0 0 = some (a, b, true) := by rw [X.ref11If_J0_eq, forkB_true]
  rw [X.ref11If_eq, rright_v, obind_of, rright_v, obind_of, e, jt]
  unfold ifE
  by_cases h1 : op < 17
  · rw [decide_eq_true h1, forkB_true, if_neg (fun h => by have := h.1.1; omega)]
  rw [decide_eq_false h1, forkB_false]
  by_cases h2 : op > 27
  · rw [decide_eq_true h2, forkB_true, if_neg (fun h => by have := h.1.2; omega)]
  rw [decide_eq_false h2, forkB_false]
  by_cases h3 : a.Lo ≤ a.Hi
  · rw [show ref11_Right a = true from decide_eq_true h3, Bool.not_true, forkB_false]
    by_cases h4 : b.Lo ≤ b.Hi
    · rw [show ref11_Right b = true from decide_eq_true h4, Bool.not_true, rif_in n op nw yes a b (by omega) (cut_ok ha h3) (cut_ok hb h4), if_pos ⟨by omega, h3, h4⟩]
    · rw [show ref11_Right b = false from decide_eq_false h4, Bool.not_false, jt, if_neg (fun h => h4 h.2.2)]
  · rw [show ref11_Right a = false from decide_eq_false h3, Bool.not_false, forkB_true, if_neg (fun h => h3 h.2.1)]
theorem span_If_E (op : Int) (nw yes : Bool) (a b : TSpan) (ha : IU64 a.Lo ∧ IU64 a.Hi) (hb : IU64 b.Lo ∧ IU64 b.Hi) : span_If op nw yes a b = ifE op nw yes a b := by
  unfold ifE
  by_cases h : (17 ≤ op ∧ op ≤ 27) ∧ a.Lo ≤ a.Hi ∧ b.Lo ≤ b.Hi
  · rw [if_pos h, span_If_eq h.1 ha hb h.2.1 h.2.2]; rfl
  · rw [if_neg h]
    unfold span_If
    rw [if_pos]
    unfold span_Right
    simp only [Bool.or_eq_true, decide_eq_true_eq, Bool.not_eq_true', decide_eq_false_iff_not]
    omega
end Go.Y
