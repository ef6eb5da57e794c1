/- Rules for plain laws: tests, wraps, loops. Nothing here is about one program. -/
import Derived.Test.YtbklhipicfimeaaXO
namespace Go.Y
open Go.RowKit Go.V Go.X

theorem forkB_if {R : Type} (c : Bool) (x y : Option R) : forkB c x y = if c = true then x else y := rfl
theorem forkB_true {R : Type} (x y : Option R) : forkB true x y = x := rfl
theorem forkB_false {R : Type} (x y : Option R) : forkB false x y = y := rfl
theorem obind_of {α β : Type} (a : α) (f : α → Option β) : obind (some a) f = f a := rfl
theorem forkB_some {R : Type} (c : Bool) (x y : R) : forkB c (some x) (some y) = some (if c = true then x else y) := by cases c <;> rfl
theorem forkB_and (c x : Bool) : forkB c (some x) (some false) = some (c && x) := by cases c <;> rfl
theorem forkB_or (c x : Bool) : forkB c (some true) (some x) = some (c || x) := by cases c <;> rfl
theorem wrap64 {x : Int} (h : -9223372036854775808 ≤ x ∧ x ≤ 9223372036854775807) : IntKind.i64.wrap x = x := by
  unfold IntKind.wrap; simp [IntKind.bits, IntKind.signed]; omega
theorem wrapU64 {x : Int} (h : 0 ≤ x ∧ x ≤ 18446744073709551615) : IntKind.u64.wrap x = x := by
  unfold IntKind.wrap; simp [IntKind.bits, IntKind.signed]; omega
/-- a loop that counts up; each round takes c of fuel. -/
theorem loop {α : Type} (f : Nat → Nat → Option α) (c len : Nat) (r : Option α) (hstep : ∀ n k, k < len → f (n + c) k = f n (k + 1)) (hend : ∀ n, f (n + 1) len = r) : ∀ m k n, k + m = len → c * m + 1 ≤ n → f n k = r
  | 0, k, n, hk, hn => by
    obtain ⟨n', rfl⟩ : ∃ n', n = n' + 1 := ⟨n - 1, by omega⟩
    have : k = len := by omega
    subst this; exact hend n'
  | m + 1, k, n, hk, hn => by
    obtain ⟨n', rfl⟩ : ∃ n', n = n' + c := ⟨n - c, by rw [Nat.mul_succ] at hn; omega⟩
    rw [hstep n' k (by omega)]
    exact loop f c len r hstep hend m (k + 1) n' (by omega) (by rw [Nat.mul_succ] at hn; omega)
theorem loop0 {α : Type} (f : Nat → Nat → Option α) (c len : Nat) (r : Option α) (hstep : ∀ n k, k < len → f (n + c) k = f n (k + 1)) (hend : ∀ n, f (n + 1) len = r) (n : Nat) (hn : c * len + 1 ≤ n) : f n 0 = r := loop f c len r hstep hend len 0 n (by omega) hn
/-- one that may end early: r k is what comes of it from k on. -/
theorem loopR {α : Type} (f : Nat → Nat → Option α) (c len : Nat) (r : Nat → Option α) (hstep : ∀ n k, k < len → f (n + c) k = r k ∨ (f (n + c) k = f n (k + 1) ∧ r k = r (k + 1))) (hend : ∀ n, f (n + 1) len = r len) : ∀ m k n, k + m = len → c * m + 1 ≤ n → f n k = r k
  | 0, k, n, hk, hn => by
    obtain ⟨n', rfl⟩ : ∃ n', n = n' + 1 := ⟨n - 1, by omega⟩
    have : k = len := by omega
    subst this; exact hend n'
  | m + 1, k, n, hk, hn => by
    obtain ⟨n', rfl⟩ : ∃ n', n = n' + c := ⟨n - c, by rw [Nat.mul_succ] at hn; omega⟩
    rcases hstep n' k (by omega) with h | ⟨h1, h2⟩
    · exact h
    · rw [h1, h2]
      exact loopR f c len r hstep hend m (k + 1) n' (by omega) (by rw [Nat.mul_succ] at hn; omega)
theorem nx {k len : Nat} (h : k < len) (hl : len ≤ 1000000000) : IntKind.i64.wrap ((k : Int) + 1) = ((k + 1 : Nat) : Int) := by rw [wrap64 (by omega)]; omega
theorem up {n : Nat} {c : Nat} (h : c ≤ n) : ∃ m, n = m + c := ⟨n - c, by omega⟩
end Go.Y
