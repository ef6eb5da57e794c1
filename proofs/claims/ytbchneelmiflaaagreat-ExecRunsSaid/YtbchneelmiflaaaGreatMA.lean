import Derived.Test.YtbchneelmiflaaaGreatIb
import Derived.Test.YtbchneelmiflaaaGreatIr
import Derived.Test.YtbchneelmiflaaaGreatIc
namespace Go.Y
open Go.RowKit Go.V Go.X Go.Proofs
theorem forkB_if {R : Type} (c : Bool) (x y : Option R) : forkB c x y = if c = true then x else y := rfl
theorem forkB_true {R : Type} (x y : Option R) : forkB true x y = x := rfl
theorem forkB_false {R : Type} (x y : Option R) : forkB false x y = y := rfl
theorem obind_of {α β : Type} (a : α) (f : α -> Option β) : obind (some a) f = f a := rfl
theorem forkB_and (c x : Bool) : forkB c (some x) (some false) = some (c && x) := by cases c <;> rfl
theorem forkB_or (c x : Bool) : forkB c (some true) (some x) = some (c || x) := by cases c <;> rfl
theorem index4 (x : Int) : qbr BIG [1, 2, 4, 8] x = forkB (x == 1) (some 0) (forkB (x == 2) (some 1) (forkB (x == 4) (some 2) (forkB (x == 8) (some 3) (some (-1))))) := by kernel_rfl
def sizedP (x : Int) : Bool := x == 1 || (x == 2 || (x == 4 || x == 8))
theorem contains4 (x : Int) : qca BIG [1, 2, 4, 8] x = some (sizedP x) := by
 rw [qca_eq, index4]
 unfold sizedP
 cases x == 1 <;> cases x == 2 <;> cases x == 4 <;> cases x == 8 <;> rfl
theorem within_p (x a b : Int) : qbj BIG x a b = some (decide (a <= x) && decide (x <= b)) := by rw [qbj_eq, forkB_and]
def regP (n m : Int) : Bool := decide (0 <= n) && decide (n <= m)
def secondP (i : Ins) : Bool := if i.UseImm = true then i.Src == 0 && (decide (-2147483648 <= i.Imm) && decide (i.Imm < 2147483648)) else regP i.Src 10 && i.Imm == 0
def farP (i : Ins) : Bool := decide (-32768 <= i.Off) && decide (i.Off < 32768)
def rightP (i : Ins) : Bool :=
 if 1 <= i.Op /\ i.Op <= 12 then regP i.Dst 9 && (secondP i && (i.Off == 0 && i.Size == 0))
 else if i.Op = 13 then regP i.Dst 9 && (i.Src == 0 && (!i.UseImm && (i.Off == 0 && (i.Imm == 0 && i.Size == 0))))
 else if i.Op = 14 then regP i.Dst 9 && (regP i.Src 10 && (farP i && (sizedP i.Size && (!i.Narrow && (!i.UseImm && i.Imm == 0)))))
 else if i.Op = 15 then regP i.Dst 10 && (farP i && (sizedP i.Size && (secondP i && !i.Narrow)))
 else if i.Op = 16 then farP i && (!i.Narrow && (i.Dst == 0 && (i.Src == 0 && (!i.UseImm && (i.Imm == 0 && i.Size == 0)))))
 else if 17 <= i.Op /\ i.Op <= 27 then regP i.Dst 10 && (farP i && (secondP i && i.Size == 0))
 else decide (i.Op = 28) && (!i.Narrow && (i.Dst == 0 && (i.Src == 0 && (!i.UseImm && (i.Off == 0 && (i.Imm == 0 && i.Size == 0))))))
theorem jumps_p (i : Ins) : qbk BIG i = some (decide (16 <= i.Op) && decide (i.Op <= 27)) := by rw [qbk_eq, forkB_and]
theorem fields_p (op : Int) : qaq BIG op = some (if 1 <= op /\ op <= 12 then 201 else if op = 13 then 193 else if op = 14 then 181 else if op = 15 then 186 else if op = 16 then 144 else if 17 <= op /\ op <= 27 then 218 else if op = 28 then 128 else 0) := by
 rw [qaq_eq]
 simp only [qaq_J0_eq, forkB_if]
 grind
theorem right_p (i : Ins) : qa BIG i = some (rightP i) := by
 rw [qa_eq, fields_p]
 obtain ⟨op, nw, d, s, u, off, imm, sz⟩ := i
 simp only [obind_of]
 have tail : ∀ (n : Nat) (f m : Int) (z : Bool) (x : Ins), qa_J9 (n + 1) f m z op nw d s u off imm sz x.Op x.Narrow x.Dst x.Src x.UseImm x.Off x.Imm x.Size =
   some (f != 0 && ((op == x.Op && (nw == x.Narrow && (d == x.Dst && (s == x.Src && (u == x.UseImm && (off == x.Off && (imm == x.Imm && sz == x.Size))))))) && ((decide (0 <= d) && decide (d <= m)) && ((decide (0 <= s) && decide (s <= 10)) && ((decide (-32768 <= off) && decide (off <= 32767)) && ((decide (-2147483648 <= imm) && decide (imm <= 2147483647)) && z)))))) := by
  intro n f m z x
  simp only [qa_J9_eq, within_p, obind_of, forkB_and]
 have tail' : ∀ (n : Nat) (f m : Int) (z : Bool) (a0 : Int) (a1 : Bool) (a2 a3 : Int) (a4 : Bool) (a5 a6 a7 : Int), qa_J9 (n + 1) f m z op nw d s u off imm sz a0 a1 a2 a3 a4 a5 a6 a7 = _ := fun n f m z a0 a1 a2 a3 a4 a5 a6 a7 => tail n f m z ⟨a0, a1, a2, a3, a4, a5, a6, a7⟩
 by_cases h0 : 1 <= op /\ op <= 12
 ·rw [if_pos h0]
  cases nw <;> cases u <;> simp only [qa_J0_eq, qa_J1_eq, qa_J2_eq, qa_J3_eq, qa_J4_eq, qa_J5_eq, qa_J6_eq, qa_J7_eq, qa_J8_eq, tail', contains4, obind_of, Bool.not_true, Bool.not_false, forkB_true, forkB_false, show (bAnd .i64 201 3 != 0) = true from by decide, show (bAnd .i64 201 4 != 0) = false from by decide, show (bAnd .i64 201 8 != 0) = true from by decide, show (bAnd .i64 201 16 != 0) = false from by decide, show (bAnd .i64 201 32 != 0) = false from by decide, show (bAnd .i64 201 64 != 0) = true from by decide, show (bAnd .i64 201 1 != 0) = true from by decide, show (bAnd .i64 201 32 == 0) = true from by decide] <;> (refine congrArg some ?_; rw [Bool.eq_iff_iff]; simp [rightP, secondP, regP, farP, *] <;> grind)
 by_cases h1 : op = 13
 ·rw [if_neg h0, if_pos h1]
  cases nw <;> cases u <;> simp only [qa_J0_eq, qa_J1_eq, qa_J2_eq, qa_J3_eq, qa_J4_eq, qa_J5_eq, qa_J6_eq, qa_J7_eq, qa_J8_eq, tail', contains4, obind_of, Bool.not_true, Bool.not_false, forkB_true, forkB_false, show (bAnd .i64 193 3 != 0) = true from by decide, show (bAnd .i64 193 4 != 0) = false from by decide, show (bAnd .i64 193 8 != 0) = false from by decide, show (bAnd .i64 193 16 != 0) = false from by decide, show (bAnd .i64 193 32 != 0) = false from by decide, show (bAnd .i64 193 64 != 0) = true from by decide, show (bAnd .i64 193 1 != 0) = true from by decide, show (bAnd .i64 193 32 == 0) = true from by decide] <;> (refine congrArg some ?_; rw [Bool.eq_iff_iff]; simp [rightP, secondP, regP, farP, *] <;> grind)
 by_cases h2 : op = 14
 ·rw [if_neg h0, if_neg h1, if_pos h2]
  cases nw <;> cases u <;> simp only [qa_J0_eq, qa_J1_eq, qa_J2_eq, qa_J3_eq, qa_J4_eq, qa_J5_eq, qa_J6_eq, qa_J7_eq, qa_J8_eq, tail', contains4, obind_of, Bool.not_true, Bool.not_false, forkB_true, forkB_false, show (bAnd .i64 181 3 != 0) = true from by decide, show (bAnd .i64 181 4 != 0) = true from by decide, show (bAnd .i64 181 8 != 0) = false from by decide, show (bAnd .i64 181 16 != 0) = true from by decide, show (bAnd .i64 181 32 != 0) = true from by decide, show (bAnd .i64 181 64 != 0) = false from by decide, show (bAnd .i64 181 1 != 0) = true from by decide, show (bAnd .i64 181 32 == 0) = false from by decide] <;> (refine congrArg some ?_; rw [Bool.eq_iff_iff]; simp [rightP, secondP, regP, farP, *] <;> grind)
 by_cases h3 : op = 15
 ·rw [if_neg h0, if_neg h1, if_neg h2, if_pos h3]
  cases nw <;> cases u <;> simp only [qa_J0_eq, qa_J1_eq, qa_J2_eq, qa_J3_eq, qa_J4_eq, qa_J5_eq, qa_J6_eq, qa_J7_eq, qa_J8_eq, tail', contains4, obind_of, Bool.not_true, Bool.not_false, forkB_true, forkB_false, show (bAnd .i64 186 3 != 0) = true from by decide, show (bAnd .i64 186 4 != 0) = false from by decide, show (bAnd .i64 186 8 != 0) = true from by decide, show (bAnd .i64 186 16 != 0) = true from by decide, show (bAnd .i64 186 32 != 0) = true from by decide, show (bAnd .i64 186 64 != 0) = false from by decide, show (bAnd .i64 186 1 != 0) = false from by decide, show (bAnd .i64 186 32 == 0) = false from by decide] <;> (refine congrArg some ?_; rw [Bool.eq_iff_iff]; simp [rightP, secondP, regP, farP, *] <;> grind)
 by_cases h4 : op = 16
 ·rw [if_neg h0, if_neg h1, if_neg h2, if_neg h3, if_pos h4]
  cases nw <;> cases u <;> simp only [qa_J0_eq, qa_J1_eq, qa_J2_eq, qa_J3_eq, qa_J4_eq, qa_J5_eq, qa_J6_eq, qa_J7_eq, qa_J8_eq, tail', contains4, obind_of, Bool.not_true, Bool.not_false, forkB_true, forkB_false, show (bAnd .i64 144 3 != 0) = false from by decide, show (bAnd .i64 144 4 != 0) = false from by decide, show (bAnd .i64 144 8 != 0) = false from by decide, show (bAnd .i64 144 16 != 0) = true from by decide, show (bAnd .i64 144 32 != 0) = false from by decide, show (bAnd .i64 144 64 != 0) = false from by decide, show (bAnd .i64 144 1 != 0) = false from by decide, show (bAnd .i64 144 32 == 0) = true from by decide] <;> (refine congrArg some ?_; rw [Bool.eq_iff_iff]; simp [rightP, secondP, regP, farP, *] <;> grind)
 by_cases h5 : 17 <= op /\ op <= 27
 ·rw [if_neg h0, if_neg h1, if_neg h2, if_neg h3, if_neg h4, if_pos h5]
  cases nw <;> cases u <;> simp only [qa_J0_eq, qa_J1_eq, qa_J2_eq, qa_J3_eq, qa_J4_eq, qa_J5_eq, qa_J6_eq, qa_J7_eq, qa_J8_eq, tail', contains4, obind_of, Bool.not_true, Bool.not_false, forkB_true, forkB_false, show (bAnd .i64 218 3 != 0) = true from by decide, show (bAnd .i64 218 4 != 0) = false from by decide, show (bAnd .i64 218 8 != 0) = true from by decide, show (bAnd .i64 218 16 != 0) = true from by decide, show (bAnd .i64 218 32 != 0) = false from by decide, show (bAnd .i64 218 64 != 0) = true from by decide, show (bAnd .i64 218 1 != 0) = false from by decide, show (bAnd .i64 218 32 == 0) = true from by decide] <;> (refine congrArg some ?_; rw [Bool.eq_iff_iff]; simp [rightP, secondP, regP, farP, *] <;> grind)
 by_cases h6 : op = 28
 ·rw [if_neg h0, if_neg h1, if_neg h2, if_neg h3, if_neg h4, if_neg h5, if_pos h6]
  cases nw <;> cases u <;> simp only [qa_J0_eq, qa_J1_eq, qa_J2_eq, qa_J3_eq, qa_J4_eq, qa_J5_eq, qa_J6_eq, qa_J7_eq, qa_J8_eq, tail', contains4, obind_of, Bool.not_true, Bool.not_false, forkB_true, forkB_false, show (bAnd .i64 128 3 != 0) = false from by decide, show (bAnd .i64 128 4 != 0) = false from by decide, show (bAnd .i64 128 8 != 0) = false from by decide, show (bAnd .i64 128 16 != 0) = false from by decide, show (bAnd .i64 128 32 != 0) = false from by decide, show (bAnd .i64 128 64 != 0) = false from by decide, show (bAnd .i64 128 1 != 0) = false from by decide, show (bAnd .i64 128 32 == 0) = true from by decide] <;> (refine congrArg some ?_; rw [Bool.eq_iff_iff]; simp [rightP, secondP, regP, farP, *] <;> grind)
 ·rw [if_neg h0, if_neg h1, if_neg h2, if_neg h3, if_neg h4, if_neg h5, if_neg h6]
  cases nw <;> cases u <;> simp only [qa_J0_eq, qa_J1_eq, qa_J2_eq, qa_J3_eq, qa_J4_eq, qa_J5_eq, qa_J6_eq, qa_J7_eq, qa_J8_eq, tail', contains4, obind_of, Bool.not_true, Bool.not_false, forkB_true, forkB_false, show (bAnd .i64 0 3 != 0) = false from by decide, show (bAnd .i64 0 4 != 0) = false from by decide, show (bAnd .i64 0 8 != 0) = false from by decide, show (bAnd .i64 0 16 != 0) = false from by decide, show (bAnd .i64 0 32 != 0) = false from by decide, show (bAnd .i64 0 64 != 0) = false from by decide, show (bAnd .i64 0 1 != 0) = false from by decide, show (bAnd .i64 0 32 == 0) = true from by decide] <;> (refine congrArg some ?_; rw [Bool.eq_iff_iff]; simp [rightP, secondP, regP, farP, *] <;> grind)
theorem less_p (x y : Int) : qbs BIG x y = some (decide (x < y)) := by
 rw [qbs_eq, qce_eq, obind_of]
 simp [forkB_if]
theorem ins1 (a : Int) : qdy BIG [a] = some ([a], ()) := by kernel_rfl
theorem ins2a (a b : Int) : qat BIG [a, b] 0 2 = obind (qbs BIG b a) (fun y => forkB y (some ([b, a], ())) (some ([a, b], ()))) := by kernel_rfl
theorem ins2b (a b : Int) : qdy BIG [a, b] = obind (obind (qat BIG [a, b] 0 2) fun y => some (y.1, ())) fun y => some (y.1, ()) := by kernel_rfl
theorem ins2 (a b : Int) : qdy BIG [a, b] = some (if b < a then [b, a] else [a, b], ()) := by
 rw [ins2b, ins2a, less_p, obind_of]
 by_cases h : b < a
 ·rw [if_pos h, decide_eq_true h]; rfl
 ·rw [if_neg h, decide_eq_false h]; rfl
theorem cut1 (a b : Int) : qec BIG [a, b] 1 1 = some (([a, b], ()), ()) := by kernel_rfl
theorem com1 (a : Int) : qaw BIG [a] = some (([a], ()), ((0, 1), ())) := by kernel_rfl
theorem com2 (a b : Int) : qaw BIG [a, b] = forkB (b == a) (some (([a, 0], ()), ((0, 1), ()))) (some (([a, b], ()), ((0, 2), ()))) := by kernel_rfl
theorem com3 (a b : Int) : qay BIG [a, b] 1 1 = some (([a, b], ()), ((1, 1), ())) := by kernel_rfl
def behindP (i : Ins) (nx to : Int) : List Int := if i.Op = 16 then [to] else if 17 <= i.Op /\ i.Op <= 27 then (if to < nx then [to, nx] else if nx < to then [nx, to] else [nx]) else [nx]
def nextP (l : List Ins) (at_ : Int) : List Int :=
 if 0 <= at_ /\ at_ < l.length then
  let i := l.getD at_.toNat dIns
  if rightP i = true /\ i.Op ≠ 28 then behindP i (IntKind.i64.wrap (at_ + 1)) (IntKind.i64.wrap (IntKind.i64.wrap (at_ + 1) + i.Off)) else []
 else []
def Part (y : List Int) (o n : Nat) (l : List Int) : Prop := o + n <= y.length /\ List.take n (List.drop o y) = l
theorem next_g1 (l : List Ins) (at_ : Int) : ∃ y o n, qv BIG l at_ = some ((), ((y, o, n), ())) /\ Part y o n (nextP l at_) := by
 have key : ∀ b, (b = false -> 0 <= at_ /\ at_ < ((l.length : Nat) : Int)) -> ∃ y o n, qv_J0 BIG l at_ b = some ((), ((y, o, n), ())) /\ Part y o n (if b = true then [] else behindP (l.getD at_.toNat dIns) (IntKind.i64.wrap (at_ + 1)) (IntKind.i64.wrap (IntKind.i64.wrap (at_ + 1) + (l.getD at_.toNat dIns).Off))) := by
  intro b hb
  rw [qv_J0_eq, forkB_if]
  by_cases hbt : b = true
  ·rw [if_pos hbt, if_pos hbt]; exact ⟨[], 0, 0, rfl, by simp, rfl⟩
  ·rw [if_neg hbt, if_neg hbt]
   have ha := hb (by simpa using hbt)
   rw [if_pos ha, if_pos ha, jumps_p, obind_of]
   simp only [qv_J1_eq, if_pos ha]
   generalize l.getD at_.toNat dIns = i
   generalize IntKind.i64.wrap (at_ + 1) = nx
   generalize IntKind.i64.wrap (nx + i.Off) = to
   unfold behindP
   by_cases h16 : i.Op = 16
   ·rw [if_pos h16, h16]
    refine ⟨[nx, to], 1, 1, ?_, by simp, rfl⟩
    have e1 : (((([nx, to] : List Int).length : Nat) : Int).toNat) - 1 = 1 := rfl
    rw [show (decide (16 <= (16 : Int)) && decide ((16 : Int) <= 27)) = true from rfl, show ((16 : Int) == 16) = true from rfl, forkB_true, forkB_true, if_pos (by simp), e1, cut1, obind_of, com3, obind_of]
   ·rw [if_neg h16]
    have e16 : (i.Op == 16) = false := by simpa using h16
    by_cases hj : 17 <= i.Op /\ i.Op <= 27
    ·rw [if_pos hj, e16, show (decide (16 <= i.Op) && decide (i.Op <= 27)) = true from by simp; omega, forkB_true, forkB_false, ins2, obind_of]
     by_cases h1 : to < nx
     ·rw [if_pos h1, if_pos h1, com2, show (nx == to) = false from by simp; omega, forkB_false, obind_of]
      exact ⟨_, _, _, rfl, by simp, rfl⟩
     ·rw [if_neg h1, if_neg h1, com2]
      by_cases h2 : nx < to
      ·rw [if_pos h2, show (to == nx) = false from by simp; omega, forkB_false, obind_of]
       exact ⟨_, _, _, rfl, by simp, rfl⟩
      ·rw [if_neg h2, show (to == nx) = true from by simp; omega, forkB_true, obind_of]
       exact ⟨_, _, _, rfl, by simp, rfl⟩
    ·rw [if_neg hj, e16, show (decide (16 <= i.Op) && decide (i.Op <= 27)) = false from by simp; omega, forkB_false, forkB_false, ins1, obind_of, com1, obind_of]
     exact ⟨_, _, _, rfl, by simp, rfl⟩
 rw [qv_eq]
 unfold nextP
 by_cases h1 : at_ < 0
 ·rw [decide_eq_true h1, forkB_true, if_neg (by omega)]
  simpa using key true (by simp)
 rw [decide_eq_false h1, forkB_false]
 by_cases h2 : at_ >= ((l.length : Nat) : Int)
 ·rw [decide_eq_true h2, forkB_true, if_neg (by omega)]
  simpa using key true (by simp)
 have ha : 0 <= at_ /\ at_ < ((l.length : Nat) : Int) := by omega
 rw [decide_eq_false h2, forkB_false, if_pos ha, if_pos ha, right_p, obind_of]
 simp only [if_pos ha]
 cases hr : rightP (l.getD at_.toNat dIns) with
 | false => simpa [forkB_true] using key true (by simp)
 | true =>
  simp only [Bool.not_true, forkB_false, true_and]
  by_cases h28 : (l.getD at_.toNat dIns).Op = 28
  ·rw [if_neg (fun h => h h28), show ((l.getD at_.toNat dIns).Op == 28) = true from by simpa using h28]
   simpa using key true (by simp)
  ·rw [if_pos h28, show ((l.getD at_.toNat dIns).Op == 28) = false from by simpa using h28]
   simpa using key false (fun _ => ha)
theorem wrap64 {x : Int} (h : -9223372036854775808 <= x /\ x <= 9223372036854775807) : IntKind.i64.wrap x = x := by
 unfold IntKind.wrap; simp [IntKind.bits, IntKind.signed]; omega
theorem loop {α : Type} (f : Nat -> Nat -> Option α) (c len : Nat) (r : Option α) (hstep : ∀ n k, k < len -> f (n + c) k = f n (k + 1)) (hend : ∀ n, f (n + 1) len = r) : ∀ m k n, k + m = len -> c * m + 1 <= n -> f n k = r
 | 0, k, n, hk, hn => by
  obtain ⟨n', rfl⟩ : ∃ n', n = n' + 1 := ⟨n - 1, by omega⟩
  have : k = len := by omega
  subst this; exact hend n'
 | m + 1, k, n, hk, hn => by
  obtain ⟨n', rfl⟩ : ∃ n', n = n' + c := ⟨n - c, by rw [Nat.mul_succ] at hn; omega⟩
  rw [hstep n' k (by omega)]
  exact loop f c len r hstep hend m (k + 1) n' (by omega) (by rw [Nat.mul_succ] at hn; omega)
theorem loop0 {α : Type} (f : Nat -> Nat -> Option α) (c len : Nat) (r : Option α) (hstep : ∀ n k, k < len -> f (n + c) k = f n (k + 1)) (hend : ∀ n, f (n + 1) len = r) (n : Nat) (hn : c * len + 1 <= n) : f n 0 = r := loop f c len r hstep hend len 0 n (by omega) hn
theorem nx {k len : Nat} (h : k < len) (hl : len <= 1000000000) : IntKind.i64.wrap ((k : Int) + 1) = ((k + 1 : Nat) : Int) := by rw [wrap64 (by omega)]; omega
def markI (k : Nat) : Ins := ⟨0, false, 0, 0, false, IntKind.i64.wrap (8000024 + (k : Int)), 0, 0⟩
def marksI : List Ins := (List.range 12).map markI
theorem nextP_len (l : List Ins) (a : Int) : (nextP l a).length <= 400000000 := by
 unfold nextP behindP; grind
def scan (code : Nat -> Int) : Nat -> Nat -> Option Fault
 | _, 0 => none
 | k, m + 1 => if code k = 0 then scan code (k + 1) m else some ⟨code k, (k : Int)⟩
theorem scan_cong (c d : Nat -> Int) : ∀ m k, (∀ j, k <= j -> j < k + m -> c j = d j) -> scan c k m = scan d k m
 | 0, _, _ => rfl
 | m + 1, k, h => by
  unfold scan
  rw [h k (by omega) (by omega), scan_cong c d m (k + 1) fun j h1 h2 => h j (by omega) (by omega)]
theorem scanE {α : Type} (f : Nat -> Nat -> Option α) (p : α -> Fault) (code : Nat -> Int) (c len b : Nat) (F : Fault)
  (step : ∀ n k, k < len -> b <= n -> (code k = 0 /\ f (n + c) k = f n (k + 1)) \/ (code k ≠ 0 /\ ∃ Y, f (n + c) k = some Y /\ p Y = ⟨code k, (k : Int)⟩))
  (hend : (∀ k, k < len -> code k = 0) -> ∀ n, b <= n -> ∃ Y, f n len = some Y /\ p Y = F) :
  ∀ m k n, k + m = len -> c * m + b <= n -> (∀ j, j < k -> code j = 0) -> ∃ Y, f n k = some Y /\ p Y = (scan code k m).getD F
 | 0, k, n, hk, hn, h => by
  have : k = len := by omega
  subst this
  exact hend h n (by omega)
 | m + 1, k, n, hk, hn, h => by
  rw [Nat.mul_succ] at hn
  obtain ⟨n', rfl⟩ : ∃ n', n = n' + c := ⟨n - c, by omega⟩
  unfold scan
  rcases step n' k (by omega) (by omega) with ⟨h1, h2⟩ | ⟨h1, Y, h2, h3⟩
  ·rw [if_pos h1, h2]
   exact scanE f p code c len b F step hend m (k + 1) n' (by omega) (by omega) (fun j hj => by
    by_cases e : j = k
    ·subst e; exact h1
    ·exact h j (by omega))
  ·rw [if_neg h1]; exact ⟨Y, h2, h3⟩
theorem iterP {α σ : Type} (f : Nat -> σ -> Nat -> Option α) (P : Nat -> σ -> Prop) (c len : Nat)
  (step : ∀ n s k, k < len -> c <= n -> P k s -> ∃ n' s', n <= n' + c /\ P (k + 1) s' /\ f n s k = f n' s' (k + 1)) :
  ∀ (m k n : Nat) (s : σ), k + m = len -> c * m <= n -> P k s -> ∃ n' s', n <= n' + c * m /\ P len s' /\ f n s k = f n' s' len
 | 0, k, n, s, hk, hn, h => ⟨n, s, by omega, by rw [<- hk]; exact h, by rw [show k = len by omega]⟩
 | m + 1, k, n, s, hk, hn, h => by
  rw [Nat.mul_succ] at hn
  obtain ⟨n1, s1, a1, a2, a3⟩ := step n s k (by omega) (by omega) h
  obtain ⟨n2, s2, b1, b2, b3⟩ := iterP f P c len step m (k + 1) n1 s1 (by omega) (by omega) a2
  exact ⟨n2, s2, by rw [Nat.mul_succ]; omega, b2, by rw [a3, b3]⟩
def foldT (xs : List Int) (r : List Bool) : List Bool := xs.foldl (fun r x => r.set x.toNat true) r
def stepP (l : List Ins) (r : List Bool) (k : Nat) : List Bool := if r.getD k false = true then foldT (nextP l (k : Int)) r else r
def stP (l : List Ins) : Nat -> List Bool
 | 0 => (List.replicate l.length false).set 0 true
 | k + 1 => stepP l (stP l k) k
theorem foldT_len : ∀ (xs : List Int) (r : List Bool), (foldT xs r).length = r.length
 | [], _ => rfl
 | x :: xs, r => by
  show (foldT xs (r.set x.toNat true)).length = _
  rw [foldT_len xs, List.length_set]
theorem stP_len (l : List Ins) : ∀ k, (stP l k).length = l.length
 | 0 => by unfold stP; rw [List.length_set, List.length_replicate]
 | k + 1 => by
  unfold stP stepP
  split
  ·rw [foldT_len, stP_len l k]
  ·exact stP_len l k
theorem set_self (r : List Bool) (k : Nat) : r.set k (r.getD k false) = r := by
 by_cases h : k < r.length
 ·rw [List.getD_eq_getElem?_getD, List.getElem?_eq_getElem h]
  exact List.set_getElem_self h
 ·exact List.set_eq_of_length_le (by omega)
theorem getD_set (r : List Bool) (k j : Nat) (b : Bool) : (r.set k b).getD j false = if k = j /\ j < r.length then b else r.getD j false := by
 rw [List.getD_eq_getElem?_getD, List.getD_eq_getElem?_getD, List.getElem?_set]
 by_cases h : k = j
 ·subst h
  by_cases h2 : k < r.length
  ·rw [if_pos rfl, if_pos h2, if_pos ⟨rfl, h2⟩]; rfl
  ·rw [if_pos rfl, if_neg h2, if_neg (fun h => h2 h.2), List.getElem?_eq_none (by omega)]
 ·rw [if_neg h, if_neg (fun h' => h h'.1)]
theorem foldT_mono : ∀ (xs : List Int) (r : List Bool) (j : Nat), r.getD j false = true -> (foldT xs r).getD j false = true
 | [], _, _, h => h
 | x :: xs, r, j, h => by
  refine foldT_mono xs (r.set x.toNat true) j ?_
  rw [getD_set]; split
  ·rfl
  ·exact h
theorem foldT_in : ∀ (xs : List Int) (r : List Bool) (x : Int), x ∈ xs -> x.toNat < r.length -> (foldT xs r).getD x.toNat false = true
 | y :: xs, r, x, hx, hl => by
  show (foldT xs (r.set y.toNat true)).getD x.toNat false = true
  rcases List.mem_cons.1 hx with rfl | hx
  ·refine foldT_mono xs _ _ ?_
   rw [getD_set, if_pos ⟨rfl, hl⟩]
  ·exact foldT_in xs _ x hx (by rw [List.length_set]; exact hl)
theorem foldT_out : ∀ (xs : List Int) (r : List Bool) (j : Nat), (∀ x ∈ xs, x.toNat ≠ j) -> (foldT xs r).getD j false = r.getD j false
 | [], _, _, _ => rfl
 | x :: xs, r, j, h => by
  show (foldT xs (r.set x.toNat true)).getD j false = _
  rw [foldT_out xs _ j (fun y hy => h y (List.mem_cons_of_mem _ hy)), getD_set, if_neg (fun h' => h x (List.mem_cons_self) h'.1)]
theorem foldT_take (xs : List Int) (r : List Bool) (j : Nat) (h : j < xs.length) : foldT (xs.take (j + 1)) r = (foldT (xs.take j) r).set (xs.getD j 0).toNat true := by
 unfold foldT
 rw [List.take_add_one, List.foldl_append, List.getElem?_eq_getElem h, List.getD_eq_getElem?_getD, List.getElem?_eq_getElem h]; rfl
def Fwd (l : List Ins) : Prop := ∀ k, k < l.length -> ∀ x ∈ nextP l (k : Int), (k : Int) < x /\ x < l.length
theorem stP_stable {l : List Ins} (h : Fwd l) (j : Nat) : ∀ d, j + d <= l.length -> (stP l (j + d)).getD j false = (stP l j).getD j false
 | 0, _ => rfl
 | d + 1, hd => by
  rw [<- stP_stable h j d (by omega)]
  show (stepP l (stP l (j + d)) (j + d)).getD j false = _
  unfold stepP
  split
  ·refine foldT_out _ _ _ fun x hx => ?_
   have := h (j + d) (by omega) x hx
   omega
  ·rfl
theorem stP_mono (l : List Ins) (j k : Nat) (h : (stP l k).getD j false = true) : ∀ d, (stP l (k + d)).getD j false = true
 | 0 => h
 | d + 1 => by
  show (stepP l (stP l (k + d)) (k + d)).getD j false = true
  unfold stepP
  split
  ·exact foldT_mono _ _ _ (stP_mono l j k h d)
  ·exact stP_mono l j k h d
theorem stP_closed {l : List Ins} (h : Fwd l) (k : Nat) (hk : k < l.length) (hr : (stP l l.length).getD k false = true) (x : Int) (hx : x ∈ nextP l (k : Int)) : (stP l l.length).getD x.toNat false = true := by
 have hb := h k hk x hx
 have e := stP_stable h k (l.length - k) (by omega)
 rw [show k + (l.length - k) = l.length by omega, hr] at e
 have : (stP l (k + 1)).getD x.toNat false = true := by
  show (stepP l (stP l k) k).getD x.toNat false = true
  unfold stepP
  rw [if_pos e.symm]
  exact foldT_in _ _ _ hx (by rw [stP_len]; omega)
 have := stP_mono l x.toNat (k + 1) this (l.length - (k + 1))
 rwa [show k + 1 + (l.length - (k + 1)) = l.length by omega] at this
def c1 (l : List Ins) (k : Nat) : Int := if rightP (l.getD k dIns) = true then 0 else 4
def jumpB (i : Ins) : Bool := decide (16 <= i.Op) && decide (i.Op <= 27)
def c2 (l : List Ins) (k : Nat) : Int := if jumpB (l.getD k dIns) = true then (if (l.getD k dIns).Off < 0 then 100 else if (k : Int) + 1 + (l.getD k dIns).Off >= (l.length : Int) then 101 else 0) else 0
def c3 (l : List Ins) (k : Nat) : Int := if k + 1 = l.length /\ (l.getD k dIns).Op ≠ 28 /\ (l.getD k dIns).Op ≠ 16 then 102 else 0
def c4 (l : List Ins) (k : Nat) : Int := if (stP l (k + 1)).getD k false = true then 0 else 103
def checkP (l : List Ins) : Fault :=
 if l.length = 0 then ⟨6, 0⟩ else if l.length > 4096 then ⟨3, 0⟩ else
  (scan (c1 l) 0 l.length).getD ((scan (c2 l) 0 l.length).getD ((scan (c3 l) 0 l.length).getD ((scan (c4 l) 0 l.length).getD ⟨0, 0⟩)))
theorem c1_right {l : List Ins} {k : Nat} (h : c1 l k = 0) : rightP (l.getD k dIns) = true := by
 unfold c1 at h
 split at h
 ·assumption
 ·cases h
theorem right_off (i : Ins) (h : rightP i = true) : -32768 <= i.Off /\ i.Off <= 32767 /\ 1 <= i.Op /\ i.Op <= 28 := by
 unfold rightP at h
 grind [secondP, farP, regP, sizedP]
theorem fwd_of {l : List Ins} (hl : l.length <= 4096) (h1 : ∀ k, k < l.length -> c1 l k = 0) (h2 : ∀ k, k < l.length -> c2 l k = 0) (h3 : ∀ k, k < l.length -> c3 l k = 0) : Fwd l := by
 intro k hk x hx
 have r := c1_right (h1 k hk)
 have a2 := h2 k hk
 have a3 := h3 k hk
 have ro := right_off _ r
 unfold c2 jumpB at a2
 unfold c3 at a3
 unfold nextP at hx
 rw [if_pos (by omega)] at hx
 simp only [Int.toNat_natCast] at hx
 generalize l.getD k dIns = i at *
 split at hx
 ·rename_i hc
  obtain ⟨_, h28⟩ := hc
  rw [wrap64 (x := (k : Int) + 1) (by omega), wrap64 (by omega)] at hx
  unfold behindP at hx
  by_cases h16 : i.Op = 16
  ·rw [if_pos h16] at hx
   simp only [List.mem_cons, List.not_mem_nil, or_false] at hx
   subst hx
   rw [if_pos (by simp; omega)] at a2
   split at a2
   ·cases a2
   ·split at a2
    ·cases a2
    ·omega
  ·rw [if_neg h16] at hx
   have hlast : k + 1 ≠ l.length := by
    intro he
    rw [if_pos ⟨he, h28, h16⟩] at a3; cases a3
   by_cases hj : 17 <= i.Op /\ i.Op <= 27
   ·rw [if_pos hj] at hx
    rw [if_pos (by simp; omega)] at a2
    split at a2
    ·cases a2
    ·split at a2
     ·cases a2
     ·split at hx
      ·simp only [List.mem_cons, List.not_mem_nil, or_false] at hx
       rcases hx with rfl | rfl <;> omega
      ·split at hx
       ·simp only [List.mem_cons, List.not_mem_nil, or_false] at hx
        rcases hx with rfl | rfl <;> omega
       ·simp only [List.mem_cons, List.not_mem_nil, or_false] at hx
        subst hx; omega
   ·rw [if_neg hj] at hx
    simp only [List.mem_cons, List.not_mem_nil, or_false] at hx
    subst hx; omega
 ·cases hx
theorem when_p (b : Bool) (x : Int) : qaj BIG b x = some (if b = true then x else 0) := by
 rw [qaj_eq]; cases b <;> rfl
theorem p1 (l : List Ins) (k : Nat) (hk : k < l.length) : qcb BIG (k : Int) l = some (((l, ()), ()), (c1 l k, ())) := by
 rw [qcb_eq, if_pos (by omega), right_p, obind_of, when_p, obind_of, Int.toNat_natCast]
 unfold c1
 cases rightP (l.getD k dIns) <;> rfl
theorem p2 (l : List Ins) (k : Nat) (hk : k < l.length) (hl : l.length <= 4096) (h1 : c1 l k = 0) : qcc BIG (k : Int) l = some (((l, ()), ()), (c2 l k, ())) := by
 have ro := right_off _ (c1_right h1)
 rw [qcc_eq, if_pos (by omega), if_pos (by omega), jumps_p, obind_of, Int.toNat_natCast, wrap64 (x := (k : Int) + 1) (by omega), wrap64 (by omega), when_p]
 unfold c2 jumpB
 generalize l.getD k dIns = i at *
 cases decide (16 <= i.Op) && decide (i.Op <= 27) with
 | false => rfl
 | true =>
  rw [Bool.not_true, forkB_false, if_pos rfl]
  by_cases h : i.Off < 0
  ·rw [decide_eq_true (by omega), forkB_true, if_pos h]
  ·rw [decide_eq_false (by omega), forkB_false, if_neg h, obind_of]
   by_cases h' : (k : Int) + 1 + i.Off >= (l.length : Int)
   ·rw [decide_eq_true h', if_pos h']; rfl
   ·rw [decide_eq_false h', if_neg h']; rfl
theorem p3 (l : List Ins) (k : Nat) (hk : k < l.length) (hl : l.length <= 4096) : qcd BIG (k : Int) l = some (((l, ()), ()), (c3 l k, ())) := by
 rw [qcd_eq, wrap64 (by omega), forkB_if]
 unfold c3
 simp only [Int.toNat_natCast]
 by_cases h : k + 1 = l.length
 ·rw [if_pos (by simp; omega), if_pos (by omega), forkB_if]
  by_cases h28 : (l.getD k dIns).Op = 28
  ·rw [if_neg (by simpa using h28), if_neg (fun h' => h'.2.1 h28), when_p, obind_of]; rfl
  ·rw [if_pos (by simpa using h28), if_pos (by omega), when_p, obind_of]
   by_cases h16 : (l.getD k dIns).Op = 16
   ·rw [if_neg (c := k + 1 = l.length /\ (l.getD k dIns).Op ≠ 28 /\ (l.getD k dIns).Op ≠ 16) (fun h' => h'.2.2 h16), h16]; rfl
   ·rw [if_pos (c := k + 1 = l.length /\ (l.getD k dIns).Op ≠ 28 /\ (l.getD k dIns).Op ≠ 16) ⟨h, h28, h16⟩, if_pos (by simpa using h16)]
 ·rw [if_neg (by simp; omega), if_neg (fun h' => h h'.1), when_p, obind_of]; rfl
theorem partAt {y xs : List Int} {o m : Nat} (h : Part y o m xs) (j : Nat) (hj : j < m) : y.getD (o + j) 0 = xs.getD j 0 /\ xs.length = m := by
 obtain ⟨h1, h2⟩ := h
 subst h2
 refine ⟨?_, by rw [List.length_take, List.length_drop]; omega⟩
 rw [List.getD_eq_getElem?_getD, List.getD_eq_getElem?_getD, List.getElem?_take, if_pos hj, List.getElem?_drop]
theorem getMem (xs : List Int) (j : Nat) (hj : j < xs.length) : xs.getD j 0 ∈ xs := by
 rw [List.getD_eq_getElem?_getD, List.getElem?_eq_getElem hj]; exact List.getElem_mem hj
theorem p4 {l : List Ins} (hl : l.length <= 4096) (hf : Fwd l) (k : Nat) (hk : k < l.length) : qr BIG (k : Int) l (stP l k) = some (((l, ()), ((), ()), stP l (k + 1), ()), (c4 l k, ())) := by
 obtain ⟨y, o, m, e, hp⟩ := next_g1 l (k : Int)
 rw [qr_eq, e, obind_of]
 dsimp only
 have hm : (nextP l (k : Int)).length = m := by
  rw [<- hp.2, List.length_take, List.length_drop]; have := hp.1; omega
 have hlen := stP_len l k
 have hn := nextP_len l (k : Int)
 have hS : ∀ j, (if (stP l k).getD k false = true then foldT ((nextP l (k : Int)).take j) (stP l k) else stP l k).length = l.length := by
  intro j; split
  ·rw [foldT_len, hlen]
  ·exact hlen
 have hat : ∀ j, (if (stP l k).getD k false = true then foldT ((nextP l (k : Int)).take j) (stP l k) else stP l k).getD k false = (stP l k).getD k false := by
  intro j; split
  ·refine foldT_out _ _ _ fun x hx => ?_
   have := hf k hk x (List.mem_of_mem_take hx); omega
  ·rfl
 have e0 : (if (stP l k).getD k false = true then foldT ((nextP l (k : Int)).take 0) (stP l k) else stP l k) = stP l k := by
  rw [List.take_zero]; split <;> rfl
 have Q := loop0 (fun n j => qr_L0 n (k : Int) o m ((m : Nat) : Int) ((j : Nat) : Int) l (if (stP l k).getD k false = true then foldT ((nextP l (k : Int)).take j) (stP l k) else stP l k) y) 2 m (some (((l, ()), ((), ()), stP l (k + 1), ()), (c4 l k, ()))) (fun n j hj => ?_) (fun n => ?_) BIG (by unfold BIG; omega)
 ·rw [e0] at Q
  exact Q
 ·show qr_L0 (n + 1 + 1) (k : Int) o m ((m : Nat) : Int) ((j : Nat) : Int) l _ y = qr_L0 n (k : Int) o m ((m : Nat) : Int) ((j + 1 : Nat) : Int) l _ y
  have hx := (partAt hp j hj).1
  have hb := hf k hk _ (getMem (nextP l (k : Int)) j (by omega))
  rw [qr_L0_eq, decide_eq_true (by omega), forkB_true, if_pos (by omega), if_pos (by have := hp.1; omega), Int.toNat_natCast, hx]
  have e1 := hS j
  have e2 := hat j
  have e3 := foldT_take (nextP l (k : Int)) (stP l k) j (by omega)
  generalize (nextP l (k : Int)).getD j 0 = x at *
  by_cases ht : (stP l k).getD k false = true
  ·simp only [if_pos ht] at e1 e2 ⊢
   rw [e3]
   generalize foldT ((nextP l (k : Int)).take j) (stP l k) = r at *
   have q1 : 0 <= x /\ x < ((r.length : Nat) : Int) := by omega
   have q2 : 0 <= (k : Int) /\ (k : Int) < ((r.length : Nat) : Int) := by omega
   simp only [if_pos q1, if_pos q2, qr_J1_eq, nx (len := m) hj (by omega), Int.toNat_natCast, e2, ht, forkB_if, ite_self]
  ·simp only [if_neg ht] at e1 e2 ⊢
   generalize hr : stP l k = r at *
   have q1 : 0 <= x /\ x < ((r.length : Nat) : Int) := by omega
   have q2 : 0 <= (k : Int) /\ (k : Int) < ((r.length : Nat) : Int) := by omega
   simp only [if_pos q1, if_pos q2, qr_J1_eq, nx (len := m) hj (by omega), Int.toNat_natCast, forkB_if]
   by_cases hz : r.getD x.toNat false = true
   ·rw [if_pos hz, <- hz, set_self]
   ·rw [if_neg hz, Bool.eq_false_iff.2 ht, <- Bool.eq_false_iff.2 hz, set_self]
 ·show qr_L0 (n + 1) (k : Int) o m ((m : Nat) : Int) ((m : Nat) : Int) l _ y = _
  have e1 := hS m
  have e2 : (if (stP l k).getD k false = true then foldT ((nextP l (k : Int)).take m) (stP l k) else stP l k) = stP l (k + 1) := by
   rw [List.take_of_length_le (by omega)]; rfl
  rw [e2] at e1 ⊢
  rw [qr_L0_eq, decide_eq_false (by omega), forkB_false, if_pos (by omega), when_p, obind_of, Int.toNat_natCast]
  unfold c4
  cases (stP l (k + 1)).getD k false <;> rfl
theorem check_p (l : List Ins) : qcf BIG l = some (checkP l) := by
 rw [qcf_eq]
 unfold checkP
 by_cases h0 : l.length = 0
 ·rw [if_pos h0, h0]; rfl
 rw [if_neg h0, show (((l.length : Nat) : Int) == 0) = false from beq_eq_false_iff_ne.2 (by omega), forkB_false]
 by_cases hl : l.length > 4096
 ·rw [if_pos hl, decide_eq_true (by omega), forkB_true]
 rw [if_neg hl, decide_eq_false (by omega), forkB_false, if_pos (by omega), if_pos (by rw [List.length_replicate]; omega), Int.toNat_natCast]
 have key : ∃ Y, qf BIG ((l.length : Nat) : Int) l (stP l 0) = some Y /\ Y.2.1 = (scan (c1 l) 0 l.length).getD ((scan (c2 l) 0 l.length).getD ((scan (c3 l) 0 l.length).getD ((scan (c4 l) 0 l.length).getD ⟨0, 0⟩))) := by
  rw [qf_eq]
  refine scanE (fun n k => qf_L1 n ((l.length : Nat) : Int) ((l.length : Nat) : Int) ((k : Nat) : Int) l (stP l 0) 0 0) (fun Y => Y.2.1) (c1 l) 1 l.length 50000 _ (fun n k hk hn => ?_) (fun z1 n hn => ?_) l.length 0 _ (by omega) (by omega) (by omega)
  ·obtain ⟨n, rfl⟩ : ∃ j, n = j + 1 := ⟨n - 1, by omega⟩
   show _ \/ _ /\ ∃ Y, qf_L1 (n + 2) _ _ _ _ _ _ _ = _ /\ _
   by_cases hc : c1 l k = 0
   ·refine .inl ⟨hc, ?_⟩
    show qf_L1 (n + 2) _ _ _ _ _ _ _ = qf_L1 (n + 1) _ _ _ _ _ _ _
    rw [qf_L1_eq, decide_eq_true (by omega), forkB_true, p1 l k hk, obind_of, hc, nx hk (by omega)]; rfl
   ·refine .inr ⟨hc, ?_⟩
    rw [qf_L1_eq, decide_eq_true (by omega), forkB_true, p1 l k hk, obind_of]
    dsimp only
    rw [show (c1 l k != 0) = true by simpa using hc, forkB_true]
    exact ⟨_, rfl, rfl⟩
  obtain ⟨n, rfl⟩ : ∃ j, n = j + 2 := ⟨n - 2, by omega⟩
  show ∃ Y, qf_L1 (n + 2) _ _ _ _ _ _ _ = _ /\ _
  rw [qf_L1_eq, decide_eq_false (by omega), forkB_false]
  refine scanE (fun n k => qf_L1a n ((l.length : Nat) : Int) ((l.length : Nat) : Int) ((k : Nat) : Int) l (stP l 0) 0 0) (fun Y => Y.2.1) (c2 l) 1 l.length 40000 _ (fun n k hk hn => ?_) (fun z2 n hn => ?_) l.length 0 _ (by omega) (by omega) (by omega)
  ·obtain ⟨n, rfl⟩ : ∃ j, n = j + 1 := ⟨n - 1, by omega⟩
   show _ \/ _ /\ ∃ Y, qf_L1a (n + 2) _ _ _ _ _ _ _ = _ /\ _
   by_cases hc : c2 l k = 0
   ·refine .inl ⟨hc, ?_⟩
    show qf_L1a (n + 2) _ _ _ _ _ _ _ = qf_L1a (n + 1) _ _ _ _ _ _ _
    rw [qf_L1a_eq, decide_eq_true (by omega), forkB_true, p2 l k hk (by omega) (z1 k hk), obind_of, hc, nx hk (by omega)]; rfl
   ·refine .inr ⟨hc, ?_⟩
    rw [qf_L1a_eq, decide_eq_true (by omega), forkB_true, p2 l k hk (by omega) (z1 k hk), obind_of]
    dsimp only
    rw [show (c2 l k != 0) = true by simpa using hc, forkB_true]
    exact ⟨_, rfl, rfl⟩
  obtain ⟨n, rfl⟩ : ∃ j, n = j + 2 := ⟨n - 2, by omega⟩
  show ∃ Y, qf_L1a (n + 2) _ _ _ _ _ _ _ = _ /\ _
  rw [qf_L1a_eq, decide_eq_false (by omega), forkB_false]
  refine scanE (fun n k => qf_L1b n ((l.length : Nat) : Int) ((l.length : Nat) : Int) ((k : Nat) : Int) l (stP l 0) 0 0) (fun Y => Y.2.1) (c3 l) 1 l.length 30000 _ (fun n k hk hn => ?_) (fun z3 n hn => ?_) l.length 0 _ (by omega) (by omega) (by omega)
  ·obtain ⟨n, rfl⟩ : ∃ j, n = j + 1 := ⟨n - 1, by omega⟩
   show _ \/ _ /\ ∃ Y, qf_L1b (n + 2) _ _ _ _ _ _ _ = _ /\ _
   by_cases hc : c3 l k = 0
   ·refine .inl ⟨hc, ?_⟩
    show qf_L1b (n + 2) _ _ _ _ _ _ _ = qf_L1b (n + 1) _ _ _ _ _ _ _
    rw [qf_L1b_eq, decide_eq_true (by omega), forkB_true, p3 l k hk (by omega), obind_of, hc, nx hk (by omega)]; rfl
   ·refine .inr ⟨hc, ?_⟩
    rw [qf_L1b_eq, decide_eq_true (by omega), forkB_true, p3 l k hk (by omega), obind_of]
    dsimp only
    rw [show (c3 l k != 0) = true by simpa using hc, forkB_true]
    exact ⟨_, rfl, rfl⟩
  obtain ⟨n, rfl⟩ : ∃ j, n = j + 2 := ⟨n - 2, by omega⟩
  show ∃ Y, qf_L1b (n + 2) _ _ _ _ _ _ _ = _ /\ _
  rw [qf_L1b_eq, decide_eq_false (by omega), forkB_false]
  have hf := fwd_of (by omega) z1 z2 z3
  refine scanE (fun n k => qf_L1c n ((l.length : Nat) : Int) ((l.length : Nat) : Int) ((k : Nat) : Int) l (stP l k) 0 0) (fun Y => Y.2.1) (c4 l) 1 l.length 20000 _ (fun n k hk hn => ?_) (fun z4 n hn => ?_) l.length 0 _ (by omega) (by omega) (by omega)
  ·obtain ⟨n, rfl⟩ : ∃ j, n = j + 1 := ⟨n - 1, by omega⟩
   show _ \/ _ /\ ∃ Y, qf_L1c (n + 2) _ _ _ _ _ _ _ = _ /\ _
   by_cases hc : c4 l k = 0
   ·refine .inl ⟨hc, ?_⟩
    show qf_L1c (n + 2) _ _ _ _ _ _ _ = qf_L1c (n + 1) _ _ _ _ _ _ _
    rw [qf_L1c_eq, decide_eq_true (by omega), forkB_true, p4 (by omega) hf k hk, obind_of, hc, nx hk (by omega)]; rfl
   ·refine .inr ⟨hc, ?_⟩
    rw [qf_L1c_eq, decide_eq_true (by omega), forkB_true, p4 (by omega) hf k hk, obind_of]
    dsimp only
    rw [show (c4 l k != 0) = true by simpa using hc, forkB_true]
    exact ⟨_, rfl, rfl⟩
  obtain ⟨n, rfl⟩ : ∃ j, n = j + 2 := ⟨n - 2, by omega⟩
  show ∃ Y, qf_L1c (n + 2) _ _ _ _ _ _ _ = _ /\ _
  rw [qf_L1c_eq, decide_eq_false (by omega), forkB_false]
  exact ⟨_, rfl, rfl⟩
 obtain ⟨Y, e1, e2⟩ := key
 have e1 : qf BIG ((l.length : Nat) : Int) l ((List.replicate l.length false).set 0 true) = some Y := e1
 rw [e1, obind_of, e2]
theorem scan_last (code : Nat -> Int) : ∀ m k, (∀ j, k <= j -> j < k + m -> code j = 0) -> scan code k (m + 1) = if code (k + m) = 0 then none else some ⟨code (k + m), ((k + m : Nat) : Int)⟩
 | 0, k, _ => by unfold scan; rfl
 | m + 1, k, h => by
  have := scan_last code m (k + 1) fun j h1 h2 => h j (by omega) (by omega)
  rw [show k + 1 + m = k + (m + 1) by omega] at this
  rw [<- this]
  show (if code k = 0 then scan code (k + 1) (m + 1) else _) = _
  rw [if_pos (h k (by omega) (by omega))]
theorem scan_some (code : Nat -> Int) : ∀ m k F, scan code k m = some F -> ∃ j, k <= j /\ j < k + m /\ code j ≠ 0 /\ F = ⟨code j, (j : Int)⟩
 | 0, _, _, h => by cases h
 | m + 1, k, F, h => by
  unfold scan at h
  split at h
  ·obtain ⟨j, h1, h2, h3, h4⟩ := scan_some code m (k + 1) F h
   exact ⟨j, by omega, by omega, h3, h4⟩
  ·rename_i hc
   cases h
   exact ⟨k, by omega, by omega, hc, rfl⟩
theorem scan_zero (code : Nat -> Int) : ∀ m k, scan code k m = none -> ∀ j, k <= j -> j < k + m -> code j = 0
 | 0, _, _, j, h1, h2 => by omega
 | m + 1, k, h, j, h1, h2 => by
  unfold scan at h
  split at h
  ·rename_i hc
   by_cases e : j = k
   ·rw [e]; exact hc
   ·exact scan_zero code m (k + 1) h j (by omega) (by omega)
  ·cases h
structure Okay (l : List Ins) : Prop where
 pos : 0 < l.length
 len : l.length <= 4096
 z1 : ∀ k, k < l.length -> c1 l k = 0
 z2 : ∀ k, k < l.length -> c2 l k = 0
 z3 : ∀ k, k < l.length -> c3 l k = 0
 z4 : ∀ k, k < l.length -> c4 l k = 0
theorem getD_zero {o : Option Fault} {d : Fault} (h : ∀ F, o = some F -> F.Err ≠ 0) (he : (o.getD d).Err = 0) : o = none /\ d.Err = 0 := by
 cases o with
 | none => exact ⟨rfl, he⟩
 | some F => exact absurd he (h F rfl)
theorem scan_err (code : Nat -> Int) (m k : Nat) (F : Fault) (h : scan code k m = some F) : F.Err ≠ 0 := by
 obtain ⟨j, _, _, h3, rfl⟩ := scan_some code m k F h
 exact h3
theorem okay_of {l : List Ins} (h : (checkP l).Err = 0) : Okay l := by
 unfold checkP at h
 by_cases h0 : l.length = 0
 ·rw [if_pos h0] at h; cases h
 rw [if_neg h0] at h
 by_cases h1 : l.length > 4096
 ·rw [if_pos h1] at h; cases h
 rw [if_neg h1] at h
 obtain ⟨a1, h⟩ := getD_zero (scan_err _ _ _) h
 obtain ⟨a2, h⟩ := getD_zero (scan_err _ _ _) h
 obtain ⟨a3, h⟩ := getD_zero (scan_err _ _ _) h
 obtain ⟨a4, h⟩ := getD_zero (scan_err _ _ _) h
 exact ⟨by omega, by omega, fun k hk => scan_zero _ _ _ a1 k (by omega) (by omega), fun k hk => scan_zero _ _ _ a2 k (by omega) (by omega), fun k hk => scan_zero _ _ _ a3 k (by omega) (by omega), fun k hk => scan_zero _ _ _ a4 k (by omega) (by omega)⟩
theorem Okay.fwd {l : List Ins} (h : Okay l) : Fwd l := fwd_of h.len h.z1 h.z2 h.z3
end Go.Y
namespace Go.Y
open Go.RowKit Go.V Go.X Go.Proofs
theorem target_p (x : Int) : qbv BIG x = some (regP x 9) := by rw [qbv_eq, forkB_and]; rfl
theorem register_p (x : Int) : qbb BIG x = some (regP x 10) := by rw [qbb_eq, forkB_and]; rfl
theorem far_p (i : Ins) : qbo BIG i = some (farP i) := by rw [qbo_eq, forkB_and]; rfl
theorem sized_p (i : Ins) : qbx BIG i = some (sizedP i.Size) := by rw [qbx_eq, forkB_or, forkB_or, forkB_or]; rfl
theorem cond_p (i : Ins) : qau BIG i = some (decide (17 <= i.Op) && decide (i.Op <= 27)) := by rw [qau_eq, forkB_and]
theorem jumps_r (i : Ins) : qby BIG i = some (decide (16 <= i.Op) && decide (i.Op <= 27)) := by
 rw [qby_eq, cond_p, obind_of, forkB_or]
 refine congrArg some ?_
 rw [Bool.eq_iff_iff]
 simp; omega
theorem second_p (i : Ins) : qaf BIG i = some (secondP i) := by
 rw [qaf_eq]
 simp only [qaf_J0_eq, register_p, obind_of, forkB_and]
 obtain ⟨op, nw, d, s, u, off, imm, sz⟩ := i
 unfold secondP
 cases u <;> simp only [forkB_if]
 ·grind
 ·grind
theorem right_r (i : Ins) : qag BIG i = some (rightP i) := by
 rw [qag_eq]
 simp only [qag_J0_eq, target_p, register_p, far_p, sized_p, cond_p, second_p, obind_of, forkB_and]
 obtain ⟨op, nw, d, s, u, off, imm, sz⟩ := i
 unfold rightP
 simp only [forkB_if, Option.some.injEq, beq_self_eq_true, Bool.true_and]
 by_cases h1 : 1 <= op /\ op <= 12
 ·grind
 by_cases h2 : op = 13
 ·subst h2; cases nw <;> cases u <;> grind
 by_cases h3 : op = 14
 ·subst h3; cases nw <;> cases u <;> grind
 by_cases h4 : op = 15
 ·subst h4; grind
 by_cases h5 : op = 16
 ·subst h5; cases nw <;> cases u <;> grind
 by_cases h6 : 17 <= op /\ op <= 27
 ·grind
 ·cases nw <;> cases u <;> grind
theorem behind_ref (n : Nat) (hn : 5 <= n) (at_ to : Int) (i : Ins) (h16 : i.Op ≠ 16) (h28 : i.Op ≠ 28) : (forkB (i.Op == 28) (some ([] : List Int)) (forkB (i.Op == 16) (some [to]) (obind (qau BIG i) fun y1 => forkB y1 (qo_J1 n at_ to (decide (to < IntKind.i64.wrap (at_ + 1))) i.Op i.Narrow i.Dst i.Src i.UseImm i.Off i.Imm i.Size) (qo_J1 n at_ to false i.Op i.Narrow i.Dst i.Src i.UseImm i.Off i.Imm i.Size)))) = some (behindP i (IntKind.i64.wrap (at_ + 1)) to) := by
 obtain ⟨m, rfl⟩ : ∃ m, n = m + 5 := ⟨n - 5, by omega⟩
 obtain ⟨op, nw, d, s, u, off, imm, sz⟩ := i
 simp only at h16 h28
 simp only [cond_p, obind_of, qo_J1_eq, qo_J2_eq, forkB_if]
 unfold behindP
 grind
theorem next_r (l : List Ins) (at_ : Int) : qo BIG l at_ = some (nextP l at_) := by
 rw [qo_eq]
 have key : ∀ b, qo_J0 BIG l at_ b = if b = true then some [] else if 0 <= at_ /\ at_ < ((l.length : Nat) : Int) then some (if (l.getD at_.toNat dIns).Op = 28 then [] else behindP (l.getD at_.toNat dIns) (IntKind.i64.wrap (at_ + 1)) (IntKind.i64.wrap (IntKind.i64.wrap (at_ + 1) + (l.getD at_.toNat dIns).Off))) else none := by
  intro b
  rw [qo_J0_eq, forkB_if]
  by_cases hb : b = true
  ·rw [if_pos hb, if_pos hb]
  ·rw [if_neg hb, if_neg hb]
   by_cases ha : 0 <= at_ /\ at_ < ((l.length : Nat) : Int)
   ·rw [if_pos ha, if_pos ha]
    generalize l.getD at_.toNat dIns = i
    by_cases h28 : i.Op = 28
    ·rw [h28, if_pos rfl]; rfl
    ·by_cases h16 : i.Op = 16
     ·rw [if_neg h28]
      unfold behindP
      rw [if_pos h16, h16]; rfl
     ·rw [if_neg h28]
      exact behind_ref _ (by decide) at_ _ i h16 h28
   ·rw [if_neg ha, if_neg ha]
 simp only [key, right_r, obind_of]
 unfold nextP
 simp only [forkB_if]
 grind
theorem come_L3 {l : List Ins} (hf : Fwd l) (hl : l.length <= 4096) (k : Nat) (hk : k < l.length) (b : Bool) (r : List Bool) (hr : r.length = l.length) (n : Nat) (hn : 20 <= n) :
  ∃ n' b', n <= n' + 10 /\ ((∀ x ∈ nextP l (k : Int), r.getD x.toNat false = true) -> b' = b) /\ qe_L3 n l b (k : Int) 0 r (nextP l (k : Int)) = qe_J2 n' l b' (k : Int) (foldT (nextP l (k : Int)) r) := by
 have hn4 : (nextP l (k : Int)).length <= 2 := by unfold nextP behindP; grind
 have hb := hf k hk
 generalize nextP l (k : Int) = xs at *
 obtain ⟨n', s', h1, h2, h3⟩ := iterP (fun n (s : Bool × List Bool) j => qe_L3 n l s.1 (k : Int) ((j : Nat) : Int) s.2 xs) (fun j s => s.2 = foldT (xs.take j) r /\ ((∀ x ∈ xs, r.getD x.toNat false = true) -> s.1 = b)) 2 xs.length (fun n s j hj hn hs => by
  obtain ⟨n, rfl⟩ : ∃ i, n = i + 2 := ⟨n - 2, by omega⟩
  obtain ⟨b1, r1⟩ := s
  obtain ⟨e1, e2⟩ := hs
  have e1 : r1 = foldT (xs.take j) r := e1
  have hx := hb _ (getMem xs j hj)
  have hT := foldT_take xs r j hj
  have hm : (∀ x ∈ xs, r.getD x.toNat false = true) -> r1.getD (xs.getD j 0).toNat false = true := fun h => by
   rw [e1]; exact foldT_mono _ _ _ (h _ (getMem xs j hj))
  have hlen : r1.length = l.length := by rw [e1, foldT_len, hr]
  rw [<- e1] at hT
  refine ⟨n, (if r1.getD (xs.getD j 0).toNat false = true then b1 else true, foldT (xs.take (j + 1)) r), by omega, ⟨rfl, fun h => ?_⟩, ?_⟩
  ·show (if _ then b1 else true) = b
   rw [if_pos (hm h)]; exact e2 h
  ·show qe_L3 (n + 1 + 1) l b1 (k : Int) ((j : Nat) : Int) r1 xs = qe_L3 n l _ (k : Int) ((j + 1 : Nat) : Int) _ xs
   rw [qe_L3_eq, decide_eq_true (by omega), forkB_true, if_pos (by omega), Int.toNat_natCast, hT]
   generalize xs.getD j 0 = x at *
   have q1 : 0 <= x /\ x < ((r1.length : Nat) : Int) := by omega
   have q2 : 0 <= ((j : Nat) : Int) /\ ((j : Nat) : Int) < ((xs.length : Nat) : Int) := by omega
   simp only [if_pos q1, if_pos q2, qe_J4_eq, nx (len := xs.length) hj (by omega)]
   by_cases hz : r1.getD x.toNat false = true
   ·rw [if_pos hz, <- hz, set_self, hz, Bool.not_true, forkB_false]
   ·rw [if_neg hz, Bool.eq_false_iff.2 hz, Bool.not_false, forkB_true]) xs.length 0 n (b, r) (by omega) (by omega) ⟨rfl, fun _ => rfl⟩
 obtain ⟨b', r'⟩ := s'
 obtain ⟨e1, e2⟩ := h2
 have e1 : r' = foldT (xs.take xs.length) r := e1
 rw [List.take_length] at e1
 obtain ⟨n', rfl⟩ : ∃ i, n' = i + 1 := ⟨n' - 1, by omega⟩
 refine ⟨n', b', by omega, e2, ?_⟩
 have h3 : qe_L3 n l b (k : Int) 0 r xs = qe_L3 (n' + 1) l b' (k : Int) ((xs.length : Nat) : Int) r' xs := h3
 rw [h3, e1, qe_L3_eq, decide_eq_false (by omega), forkB_false]
theorem come_L1 {l : List Ins} (hf : Fwd l) (hl : l.length <= 4096) (k : Nat) (hk : k < l.length) (b : Bool) (r : List Bool) (hr : r.length = l.length) (n : Nat) (hn : 30 <= n) :
  ∃ n' b', n <= n' + 30 /\ ((r.getD k false = true -> ∀ x ∈ nextP l (k : Int), r.getD x.toNat false = true) -> b' = b) /\ qe_L1 n l b (k : Int) r = qe_L1 n' l b' ((k + 1 : Nat) : Int) (stepP l r k) := by
 obtain ⟨n, rfl⟩ : ∃ i, n = i + 2 := ⟨n - 2, by omega⟩
 rw [qe_L1_eq, decide_eq_true (by omega), forkB_true, if_pos (by omega), Int.toNat_natCast]
 unfold stepP
 by_cases h : r.getD k false = true
 ·rw [h, Bool.not_true, forkB_false, next_r, obind_of, if_pos rfl]
  obtain ⟨n', b', a1, a2, a3⟩ := come_L3 hf hl k hk b r hr (n + 1) (by omega)
  obtain ⟨n', rfl⟩ : ∃ i, n' = i + 1 := ⟨n' - 1, by omega⟩
  exact ⟨n', b', by omega, fun hh => a2 (hh rfl), by rw [a3, qe_J2_eq, nx hk (by omega)]⟩
 ·rw [if_neg h, Bool.eq_false_iff.2 h, Bool.not_false, forkB_true]
  exact ⟨n, b, by omega, fun _ => rfl, by rw [qe_J2_eq, nx hk (by omega)]⟩
theorem come_r {l : List Ins} (hf : Fwd l) (hl : l.length <= 4096) (h0 : 0 < l.length) : qe BIG l = some (stP l l.length) := by
 rw [qe_eq, if_pos (by omega), if_pos (by rw [List.length_replicate]; omega), Int.toNat_natCast]
 have e : qe_L0 BIG l true (stP l 0) = qe_L1 999999999 l false 0 (stP l 0) := by rw [qe_L0_eq, forkB_true]
 have e : qe_L0 BIG l true ((List.replicate l.length false).set 0 true) = qe_L1 999999999 l false 0 (stP l 0) := e
 rw [e]
 obtain ⟨n', s', h1, h2, h3⟩ := iterP (fun n (s : Bool × List Bool) k => qe_L1 n l s.1 ((k : Nat) : Int) s.2) (fun k s => s.2 = stP l k) 30 l.length (fun n s k hk hn hs => by
  obtain ⟨b, r⟩ := s
  have hs : r = stP l k := hs
  subst hs
  obtain ⟨n', b', a1, _, a3⟩ := come_L1 hf hl k hk b (stP l k) (stP_len l k) n hn
  exact ⟨n', (b', stP l (k + 1)), a1, rfl, a3⟩) l.length 0 999999999 (false, stP l 0) (by omega) (by omega) rfl
 obtain ⟨b', r'⟩ := s'
 have h2 : r' = stP l l.length := h2
 subst h2
 have h3 : qe_L1 999999999 l false 0 (stP l 0) = qe_L1 n' l b' ((l.length : Nat) : Int) (stP l l.length) := h3
 obtain ⟨n', rfl⟩ : ∃ i, n' = i + 3 := ⟨n' - 3, by omega⟩
 rw [h3, qe_L1_eq, decide_eq_false (by omega), forkB_false, qe_L0_eq]
 cases b' with
 | false => rw [forkB_false]
 | true =>
  rw [forkB_true]
  obtain ⟨n2, s2, g1, g2, g3⟩ := iterP (fun n (s : Bool × List Bool) k => qe_L1 n l s.1 ((k : Nat) : Int) s.2) (fun k s => s = (false, stP l l.length)) 30 l.length (fun n s k hk hn hs => by
   subst hs
   obtain ⟨n', b', a1, a2, a3⟩ := come_L1 hf hl k hk false (stP l l.length) (stP_len l _) n hn
   have hb := a2 fun hr x hx => stP_closed hf k hk hr x hx
   have hst : stepP l (stP l l.length) k = stP l l.length := by
    unfold stepP
    split
    ·rename_i hr
     have : ∀ (xs : List Int), (∀ x ∈ xs, (stP l l.length).getD x.toNat false = true) -> foldT xs (stP l l.length) = stP l l.length := by
      intro xs
      induction xs with
      | nil => intro _; rfl
      | cons x xs ih =>
       intro h
       show foldT xs ((stP l l.length).set x.toNat true) = _
       have e : (stP l l.length).set x.toNat true = stP l l.length := by rw [<- h x List.mem_cons_self, set_self]
       rw [e]
       exact ih fun y hy => h y (List.mem_cons_of_mem _ hy)
     exact this _ fun x hx => stP_closed hf k hk hr x hx
    ·rfl
   refine ⟨n', (b', stP l l.length), a1, by rw [hb], ?_⟩
   have a3' := a3
   rw [hst] at a3'
   exact a3') l.length 0 (n' + 1) (false, stP l l.length) (by omega) (by omega) rfl
  subst g2
  have g3 : qe_L1 (n' + 1) l false 0 (stP l l.length) = qe_L1 n2 l false ((l.length : Nat) : Int) (stP l l.length) := g3
  obtain ⟨n2, rfl⟩ : ∃ i, n2 = i + 2 := ⟨n2 - 2, by omega⟩
  rw [g3, qe_L1_eq, decide_eq_false (by omega), forkB_false, qe_L0_eq, forkB_false]
theorem check_r (l : List Ins) : qd BIG l = some (checkP l) := by
 rw [qd_eq]
 unfold checkP
 by_cases h0 : l.length = 0
 ·rw [if_pos h0, h0]; rfl
 rw [if_neg h0, show (((l.length : Nat) : Int) == 0) = false from beq_eq_false_iff_ne.2 (by omega), forkB_false]
 by_cases hl : l.length > 4096
 ·rw [if_pos hl, decide_eq_true (by omega), forkB_true]
 rw [if_neg hl, decide_eq_false (by omega), forkB_false]
 have key : ∃ Y, qd_L0 BIG l 0 0 0 = some Y /\ Y = (scan (c1 l) 0 l.length).getD ((scan (c2 l) 0 l.length).getD ((scan (c3 l) 0 l.length).getD ((scan (c4 l) 0 l.length).getD ⟨0, 0⟩))) := by
  refine scanE (fun n k => qd_L0 n l ((k : Nat) : Int) 0 0) (fun Y => Y) (c1 l) 1 l.length 50000 _ (fun n k hk hn => ?_) (fun z1 n hn => ?_) l.length 0 BIG (by omega) (by unfold BIG; omega) (by omega)
  ·show _ \/ _ /\ ∃ Y, qd_L0 (n + 1) _ _ _ _ = _ /\ _
   have hc : c1 l k = if rightP (l.getD k dIns) = true then 0 else 4 := rfl
   rw [hc]
   by_cases hr : rightP (l.getD k dIns) = true
   ·refine .inl ⟨by rw [if_pos hr], ?_⟩
    show qd_L0 (n + 1) _ _ _ _ = _
    rw [qd_L0_eq, decide_eq_true (by omega), forkB_true, if_pos (by omega), right_r, obind_of, Int.toNat_natCast, hr, Bool.not_true, forkB_false, nx hk (by omega)]
   ·refine .inr ⟨by rw [if_neg hr]; decide, ?_⟩
    rw [qd_L0_eq, decide_eq_true (by omega), forkB_true, if_pos (by omega), right_r, obind_of, Int.toNat_natCast, Bool.eq_false_iff.2 hr, Bool.not_false, forkB_true]
    exact ⟨_, rfl, rfl⟩
  obtain ⟨n, rfl⟩ : ∃ j, n = j + 1 := ⟨n - 1, by omega⟩
  show ∃ Y, qd_L0 (n + 1) _ _ _ _ = _ /\ _
  rw [qd_L0_eq, decide_eq_false (by omega), forkB_false]
  refine scanE (fun n k => qd_L1 n l ((k : Nat) : Int) 0 0) (fun Y => Y) (c2 l) 3 l.length 30000 _ (fun n k hk hn => ?_) (fun z2 n hn => ?_) l.length 0 n (by omega) (by omega) (by omega)
  ·have ro := right_off _ (c1_right (z1 k hk))
   have q : 0 <= ((k : Nat) : Int) /\ ((k : Nat) : Int) < ((l.length : Nat) : Int) := by omega
   have hc : c2 l k = if jumpB (l.getD k dIns) = true then (if (l.getD k dIns).Off < 0 then 100 else if (k : Int) + 1 + (l.getD k dIns).Off >= (l.length : Int) then 101 else 0) else 0 := rfl
   have w1 : IntKind.i64.wrap ((k : Int) + 1) = (k : Int) + 1 := wrap64 (by omega)
   have w2 : IntKind.i64.wrap ((k : Int) + 1 + (l.getD k dIns).Off) = (k : Int) + 1 + (l.getD k dIns).Off := wrap64 (by omega)
   have hE : qd_L1 (n + 3) l ((k : Nat) : Int) 0 0 = if jumpB (l.getD k dIns) = true then (if (l.getD k dIns).Off < 0 then some ⟨100, (k : Int)⟩ else if (k : Int) + 1 + (l.getD k dIns).Off >= (l.length : Int) then some ⟨101, (k : Int)⟩ else qd_L1 n l ((k + 1 : Nat) : Int) 0 0) else qd_L1 n l ((k + 1 : Nat) : Int) 0 0 := by
    rw [qd_L1_eq, decide_eq_true (by omega), forkB_true]
    simp only [if_pos q, jumps_r, obind_of, Int.toNat_natCast, qd_J2_eq, qd_J3_eq, w1, w2, forkB_if]
    unfold jumpB
    rw [show ((k + 1 : Nat) : Int) = (k : Int) + 1 by omega]
    by_cases hj : (decide (16 <= (l.getD k dIns).Op) && decide ((l.getD k dIns).Op <= 27)) = true
    ·simp only [if_pos hj, decide_eq_true_eq]
    ·simp only [if_neg hj, Bool.false_eq_true, if_false]
   show _ \/ _ /\ ∃ Y, qd_L1 (n + 3) _ _ _ _ = _ /\ _
   rw [hE, hc]
   by_cases hj : jumpB (l.getD k dIns) = true
   ·simp only [if_pos hj]
    by_cases h1 : (l.getD k dIns).Off < 0
    ·simp only [if_pos h1]; exact .inr ⟨by decide, _, rfl, rfl⟩
    ·simp only [if_neg h1]
     by_cases h2 : (k : Int) + 1 + (l.getD k dIns).Off >= (l.length : Int)
     ·simp only [if_pos h2]; exact .inr ⟨by decide, _, rfl, rfl⟩
     ·simp only [if_neg h2]
      exact .inl ⟨trivial, trivial⟩
   ·simp only [if_neg hj]
    exact .inl ⟨trivial, trivial⟩
  obtain ⟨n, rfl⟩ : ∃ j, n = j + 2 := ⟨n - 2, by omega⟩
  obtain ⟨m, hm⟩ : ∃ m, l.length = m + 1 := ⟨l.length - 1, by omega⟩
  have hw : IntKind.i64.wrap (((l.length : Nat) : Int) - 1) = ((m : Nat) : Int) := by rw [wrap64 (by omega)]; omega
  have hq : 0 <= ((m : Nat) : Int) /\ ((m : Nat) : Int) < ((l.length : Nat) : Int) := by omega
  have hlast : ∀ j, j < l.length -> j ≠ m -> c3 l j = 0 := fun j hj hjm => by
   unfold c3; rw [if_neg (by omega)]
  have hs := scan_last (c3 l) m 0 (fun j _ h2 => hlast j (by omega) (by omega))
  rw [Nat.zero_add, <- hm] at hs
  show ∃ Y, qd_L1 (n + 1 + 1) _ _ _ _ = _ /\ _
  have hJ : qd_L1 (n + 1 + 1) l ((l.length : Nat) : Int) 0 0 = if c3 l m = 0 then (obind (qe BIG l) fun y1 => qd_L5 n l 0 0 0 y1) else some ⟨102, ((m : Nat) : Int)⟩ := by
   rw [qd_L1_eq, decide_eq_false (by omega), forkB_false, hw, if_pos hq, if_pos hq, Int.toNat_natCast]
   have hc : c3 l m = if m + 1 = l.length /\ (l.getD m dIns).Op ≠ 28 /\ (l.getD m dIns).Op ≠ 16 then 102 else 0 := rfl
   rw [hc]
   simp only [qd_J4_eq, forkB_if]
   generalize l.getD m dIns = i
   by_cases h28 : i.Op = 28
   ·simp [h28]
   ·by_cases h16 : i.Op = 16
    ·simp [h16]
    ·simp [h28, h16, hm]
  rw [hJ, hs]
  by_cases hz : c3 l m = 0
  ·rw [if_pos hz, if_pos hz]
   have hf := fwd_of (by omega) z1 z2 (fun k hk => by
    by_cases e : k = m
    ·rw [e]; exact hz
    ·exact hlast k hk e)
   rw [come_r hf (by omega) (by omega), obind_of]
   rw [show scan (c4 l) 0 l.length = scan (fun k => if (stP l l.length).getD k false = true then 0 else 103) 0 l.length from scan_cong _ _ _ _ fun j _ hj => by
    unfold c4
    have e1 := stP_stable hf j (l.length - j) (by omega)
    have e2 := stP_stable hf j 1 (by omega)
    rw [show j + (l.length - j) = l.length by omega] at e1
    rw [e2, e1]]
   refine scanE (fun n k => qd_L5 n l ((k : Nat) : Int) 0 0 (stP l l.length)) (fun Y => Y) (fun k => if (stP l l.length).getD k false = true then 0 else 103) 1 l.length 1 _ (fun n k hk hn => ?_) (fun z4 n hn => ?_) l.length 0 n (by omega) (by omega) (by omega)
   ·have hL := stP_len l l.length
    show _ \/ _ /\ ∃ Y, qd_L5 (n + 1) _ _ _ _ _ = _ /\ _
    by_cases hr : (stP l l.length).getD k false = true
    ·refine .inl ⟨by simp only [if_pos hr], ?_⟩
     show qd_L5 (n + 1) _ _ _ _ _ = _
     rw [qd_L5_eq, decide_eq_true (by omega), forkB_true, if_pos (by omega), Int.toNat_natCast, hr, Bool.not_true, forkB_false, nx hk (by omega)]
    ·refine .inr ⟨by simp only [if_neg hr]; decide, ?_⟩
     rw [qd_L5_eq, decide_eq_true (by omega), forkB_true, if_pos (by omega), Int.toNat_natCast, Bool.eq_false_iff.2 hr, Bool.not_false, forkB_true]
     exact ⟨_, rfl, by simp⟩
   ·obtain ⟨n, rfl⟩ : ∃ j, n = j + 1 := ⟨n - 1, by omega⟩
    show ∃ Y, qd_L5 (n + 1) _ _ _ _ _ = _ /\ _
    rw [qd_L5_eq, decide_eq_false (by omega), forkB_false]
    exact ⟨_, rfl, rfl⟩
  ·rw [if_neg hz, if_neg hz]
   refine ⟨_, rfl, ?_⟩
   have : c3 l m = 102 := by
    unfold c3 at hz ⊢; split
    ·rfl
    ·rename_i h; rw [if_neg h] at hz; exact absurd rfl hz
   rw [this]; rfl
 obtain ⟨Y, e1, e2⟩ := key
 rw [e1, e2]
end Go.Y
namespace Go.Y
open Go.RowKit Go.V Go.X Go.Proofs
def U64 (x : Int) : Prop := 0 <= x /\ x <= 18446744073709551615
theorem wu64 (x : Int) : U64 (IntKind.u64.wrap x) := by
 unfold IntKind.wrap U64; simp [IntKind.bits, IntKind.signed]; omega
theorem wu32 (x : Int) : 0 <= IntKind.u32.wrap x /\ IntKind.u32.wrap x <= 4294967295 := by
 unfold IntKind.wrap; simp [IntKind.bits, IntKind.signed]; omega
theorem wrapU64 {x : Int} (h : U64 x) : IntKind.u64.wrap x = x := by
 unfold U64 at h; unfold IntKind.wrap; simp [IntKind.bits, IntKind.signed]; omega
def doV (k ki : IntKind) (bits op a b : Int) : Int × Int :=
 if op = 1 then (k.wrap (a + b), 0) else if op = 2 then (k.wrap (a - b), 0) else if op = 3 then (k.wrap (a * b), 0) else if op = 4 then (k.wrap (a.tdiv b), 0) else if op = 5 then (a.tmod b, 0)
 else if op = 6 then (bAnd k a b, 0) else if op = 7 then (bOr k a b, 0) else if op = 8 then (bXor k a b, 0) else if op = 9 then (sShl k a (b.tmod bits), 0) else if op = 10 then (sShr k a (b.tmod bits), 0)
 else if op = 11 then (k.wrap (sShr ki (ki.wrap a) (b.tmod bits)), 0) else if op = 12 then (b, 0) else if op = 13 then (k.wrap (0 - a), 0) else (0, 2)
def doW (k ki : IntKind) (bits op a b : Int) : Int × Int := if (op = 4 \/ op = 5) /\ b = 0 then (0, 113) else doV k ki bits op a b
theorem tmod_pos {x m : Int} (hx : 0 <= x) : ¬ x.tmod m < 0 := by
 have := Int.tmod_nonneg m hx; omega
theorem do32_p (op a b : Int) (hb : 0 <= b) : qah BIG op 32 a b = some (doW .u32 .i32 32 op a b) := by
 obtain ⟨n, e⟩ : ∃ n : Nat, (BIG : Nat) = n + 1 := ⟨999999999, rfl⟩
 have hj : ∀ c : Bool, (c = false -> (op = 4 \/ op = 5) -> b ≠ 0) -> qah_J0 (n + 1) op c 32 a b = some (if c = true then (0, 113) else doV .u32 .i32 32 op a b) := by
  intro c hc
  rw [qah_J0_eq]
  cases c with
  | true => rfl
  | false =>
   rw [forkB_false]
   simp only [qcw_eq, qcx_eq, qcy_eq, qcz_eq, qda_eq, qdb_eq, qdc_eq, qdd_eq, qde_eq, qdf_eq, qdg_eq, qdh_eq, qdi_eq, obind_of, tmod_pos hb, if_false, Bool.false_eq_true, show ¬ ((32 : Int) = 0) by decide]
   unfold doV
   by_cases h4 : op = 4
   ·subst h4; have := hc rfl (.inl rfl); simp only [if_neg this]; rfl
   by_cases h5 : op = 5
   ·subst h5; have := hc rfl (.inr rfl); simp only [if_neg this]; rfl
   simp only [if_neg h4, if_neg h5, if_false, Bool.false_eq_true, apply_ite some]
 rw [qah_eq, e]
 unfold doW
 by_cases h4 : op = 4
 ·subst h4; rw [forkB_if, if_pos (by decide), hj _ (by intro h _ hb; subst hb; cases h)]
  by_cases h : b = 0
  ·subst h; rfl
  ·rw [if_neg (by simpa using h), if_neg (by simp [h])]
 by_cases h5 : op = 5
 ·subst h5; rw [forkB_if, if_neg (by decide), forkB_if, if_pos (by decide), hj _ (by intro h _ hb; subst hb; cases h)]
  by_cases h : b = 0
  ·subst h; rfl
  ·rw [if_neg (by simpa using h), if_neg (by simp [h])]
 rw [forkB_if, if_neg (by simpa using h4), forkB_if, if_neg (by simpa using h5), hj _ (by intro _ h; exact absurd h (by simp [h4, h5])), if_neg (by simp), if_neg (by simp [h4, h5])]
theorem do64_p (op a b : Int) (hb : 0 <= b) : qai BIG op 64 a b = some (doW .u64 .i64 64 op a b) := by
 obtain ⟨n, e⟩ : ∃ n : Nat, (BIG : Nat) = n + 1 := ⟨999999999, rfl⟩
 have hj : ∀ c : Bool, (c = false -> (op = 4 \/ op = 5) -> b ≠ 0) -> qai_J0 (n + 1) op c 64 a b = some (if c = true then (0, 113) else doV .u64 .i64 64 op a b) := by
  intro c hc
  rw [qai_J0_eq]
  cases c with
  | true => rfl
  | false =>
   rw [forkB_false]
   simp only [qdj_eq, qdk_eq, qdl_eq, qdm_eq, qdn_eq, qdo_eq, qdp_eq, qdq_eq, qdr_eq, qds_eq, qdt_eq, qdu_eq, qdv_eq, obind_of, tmod_pos hb, if_false, Bool.false_eq_true, show ¬ ((64 : Int) = 0) by decide]
   unfold doV
   by_cases h4 : op = 4
   ·subst h4; have := hc rfl (.inl rfl); simp only [if_neg this]; rfl
   by_cases h5 : op = 5
   ·subst h5; have := hc rfl (.inr rfl); simp only [if_neg this]; rfl
   simp only [if_neg h4, if_neg h5, if_false, Bool.false_eq_true, apply_ite some]
 rw [qai_eq, e]
 unfold doW
 by_cases h4 : op = 4
 ·subst h4; rw [forkB_if, if_pos (by decide), hj _ (by intro h _ hb; subst hb; cases h)]
  by_cases h : b = 0
  ·subst h; rfl
  ·rw [if_neg (by simpa using h), if_neg (by simp [h])]
 by_cases h5 : op = 5
 ·subst h5; rw [forkB_if, if_neg (by decide), forkB_if, if_pos (by decide), hj _ (by intro h _ hb; subst hb; cases h)]
  by_cases h : b = 0
  ·subst h; rfl
  ·rw [if_neg (by simpa using h), if_neg (by simp [h])]
 rw [forkB_if, if_neg (by simpa using h4), forkB_if, if_neg (by simpa using h5), hj _ (by intro _ h; exact absurd h (by simp [h4, h5])), if_neg (by simp), if_neg (by simp [h4, h5])]
def aluP (op : Int) (nw : Bool) (a b : Int) : Int × Int :=
 if nw = true then (IntKind.u64.wrap (doW .u32 .i32 32 op (IntKind.u32.wrap a) (IntKind.u32.wrap b)).1, (doW .u32 .i32 32 op (IntKind.u32.wrap a) (IntKind.u32.wrap b)).2) else doW .u64 .i64 64 op a b
theorem alu_p (op : Int) (nw : Bool) (a b : Int) (hb : U64 b) : qbi BIG op nw a b = some (aluP op nw a b) := by
 rw [qbi_eq]
 unfold aluP
 cases nw with
 | true => rw [forkB_true, do32_p _ _ _ (wu32 b).1, obind_of]; rfl
 | false => rw [forkB_false, do64_p _ _ _ hb.1, obind_of]; rfl
theorem fdiv_rng {x m : Int} (hx : 0 <= x /\ x <= m) (n : Nat) : 0 <= x.fdiv (2 ^ n) /\ x.fdiv (2 ^ n) <= m := by
 have hp : (0 : Int) < 2 ^ n := Int.pow_pos (by decide)
 rw [Int.fdiv_eq_ediv_of_nonneg _ (Int.le_of_lt hp)]
 have h1 := Int.ediv_nonneg hx.1 (Int.le_of_lt hp)
 have h2 := Int.ediv_le_self (2 ^ n) hx.1
 omega
theorem ite_rng {c : Prop} [Decidable c] {x y : Int × Int} (hx : c -> U64 x.1) (hy : ¬ c -> U64 y.1) : U64 (if c then x else y).1 := by
 by_cases h : c
 ·rw [if_pos h]; exact hx h
 ·rw [if_neg h]; exact hy h
theorem doW_rng {op a b : Int} (ha : U64 a) (hb : U64 b) : U64 (doW .u64 .i64 64 op a b).1 := by
 unfold doW doV
 have h0 : U64 0 := ⟨by decide, by decide⟩
 have hm : b ≠ 0 -> U64 (a.tmod b) := fun hb0 => by
  have h1 := Int.tmod_nonneg b ha.1
  have h2 := Int.tmod_lt_of_pos a (b := b) (by have := hb.1; omega)
  have := hb.2
  exact ⟨h1, by omega⟩
 refine ite_rng (fun _ => h0) fun hn => ?_
 refine ite_rng (fun _ => wu64 _) fun _ => ?_
 refine ite_rng (fun _ => wu64 _) fun _ => ?_
 refine ite_rng (fun _ => wu64 _) fun _ => ?_
 refine ite_rng (fun _ => wu64 _) fun _ => ?_
 refine ite_rng (fun h5 => hm fun h => hn ⟨.inr h5, h⟩) fun _ => ?_
 refine ite_rng (fun _ => wu64 _) fun _ => ?_
 refine ite_rng (fun _ => wu64 _) fun _ => ?_
 refine ite_rng (fun _ => wu64 _) fun _ => ?_
 refine ite_rng (fun _ => wu64 _) fun _ => ?_
 refine ite_rng (fun _ => fdiv_rng ha _) fun _ => ?_
 refine ite_rng (fun _ => wu64 _) fun _ => ?_
 refine ite_rng (fun _ => hb) fun _ => ?_
 refine ite_rng (fun _ => wu64 _) fun _ => ?_
 exact h0
theorem aluP_rng {op : Int} {nw : Bool} {a b : Int} (ha : U64 a) (hb : U64 b) : U64 (aluP op nw a b).1 := by
 unfold aluP
 split
 ·exact wu64 _
 ·exact doW_rng ha hb
theorem obind_ite {α β : Type} (c : Prop) [Decidable c] (x y : Option α) (f : α -> Option β) : obind (if c then x else y) f = if c then obind x f else obind y f := by split <;> rfl
def isW (ki : IntKind) (k : IntKind) (op a b : Int) : Bool × Int :=
 if op = 17 then (a == b, 0) else if op = 18 then (a != b, 0) else if op = 19 then (decide (a > b), 0) else if op = 20 then (decide (a >= b), 0) else if op = 21 then (decide (a < b), 0) else if op = 22 then (decide (a <= b), 0)
 else if op = 23 then (decide (ki.wrap a > ki.wrap b), 0) else if op = 24 then (decide (ki.wrap a >= ki.wrap b), 0) else if op = 25 then (decide (ki.wrap a < ki.wrap b), 0) else if op = 26 then (decide (ki.wrap a <= ki.wrap b), 0)
 else if op = 27 then (bAnd k a b != 0, 0) else (false, 2)
def isP (op : Int) (nw : Bool) (a b : Int) : Bool × Int := if nw = true then isW .i32 .u32 op (IntKind.u32.wrap a) (IntKind.u32.wrap b) else isW .i64 .u64 op a b
theorem is_p (op : Int) (nw : Bool) (a b : Int) : qbz BIG op nw a b = some (isP op nw a b) := by
 rw [qbz_eq]
 unfold isP
 cases nw with
 | true =>
  rw [forkB_true, qdw_eq, if_pos rfl]
  unfold isW
  simp only [forkB_if, beq_iff_eq, apply_ite some, obind_ite, obind_of]
 | false =>
  rw [forkB_false, qdx_eq, if_neg (by decide)]
  unfold isW
  simp only [forkB_if, beq_iff_eq, apply_ite some, obind_ite, obind_of]
end Go.Y
namespace Go.Y
open Go.RowKit Go.V Go.X Go.Proofs
def ByteL (b : List Int) : Prop := ∀ x ∈ b, 0 <= x /\ x <= 255
theorem ByteL.getD {b : List Int} (h : ByteL b) (k : Nat) : 0 <= b.getD k 0 /\ b.getD k 0 <= 255 := by
 rw [List.getD_eq_getElem?_getD]
 cases hk : b[k]? with
 | none => exact ⟨by decide, by decide⟩
 | some x => exact h x (List.mem_of_getElem? hk)
def beF (b : List Int) : Nat -> Nat -> Int
 | _, 0 => 0
 | p, m + 1 => b.getD p 0 * 256 ^ m + beF b (p + 1) m
theorem beF_rng {b : List Int} (h : ByteL b) : ∀ (m p : Nat), 0 <= beF b p m /\ beF b p m < 256 ^ m
 | 0, p => by simp [beF]
 | m + 1, p => by
  obtain ⟨h1, h2⟩ := beF_rng h m (p + 1)
  obtain ⟨h3, h4⟩ := h.getD p
  have hp : (0 : Int) < 256 ^ m := Int.pow_pos (by decide)
  rw [beF, Int.pow_succ]
  have h5 := Int.mul_nonneg h3 (Int.le_of_lt hp)
  have h6 := Int.mul_le_mul_of_nonneg_right h4 (Int.le_of_lt hp)
  omega
theorem orAdd (k : IntKind) (m : Nat) (x y : Int) (hm : m <= k.bits) (hx : x % 2 ^ m = 0) (hy : 0 <= y /\ y < 2 ^ m) : bOr k x y = k.wrap (x % 2 ^ k.bits + y) := by
 unfold bOr
 congr 1
 rw [BitVec.toNat_or, BitVec.toNat_ofInt, BitVec.toNat_ofInt]
 have hp : (2 : Int) ^ m <= 2 ^ k.bits := by exact_mod_cast Nat.pow_le_pow_right (by decide) hm
 have hp0 : (0 : Int) < 2 ^ k.bits := Int.pow_pos (by decide)
 have h1 : y % ((2 ^ k.bits : Nat) : Int) = y := by push_cast; exact Int.emod_eq_of_lt hy.1 (by omega)
 have h2 : (x % ((2 ^ k.bits : Nat) : Int)) % 2 ^ m = 0 := by
  push_cast
  rw [Int.emod_emod_of_dvd _ ⟨2 ^ (k.bits - m), by rw [<- Int.pow_add]; congr 1; omega⟩]; exact hx
 have h3 : 0 <= x % ((2 ^ k.bits : Nat) : Int) := Int.emod_nonneg _ (by push_cast; omega)
 rw [h1]
 push_cast at h2 h3 ⊢
 generalize x % 2 ^ k.bits = X at h2 h3 ⊢
 obtain ⟨q, hq⟩ := Int.dvd_of_emod_eq_zero h2
 have hq0 : 0 <= q := by
  have : (0 : Int) < 2 ^ m := Int.pow_pos (by decide)
  rcases Int.lt_or_le q 0 with h | h
  ·have := Int.mul_neg_of_pos_of_neg this h; omega
  ·exact h
 obtain ⟨c, rfl⟩ := Int.eq_ofNat_of_zero_le hq0
 obtain ⟨d, rfl⟩ := Int.eq_ofNat_of_zero_le hy.1
 have hd : d < 2 ^ m := by have := hy.2; exact_mod_cast this
 have hX : X.toNat = 2 ^ m * c := by rw [hq]; exact_mod_cast Int.toNat_natCast (2 ^ m * c)
 rw [hX, Int.toNat_natCast, <- Nat.two_pow_add_eq_or_of_lt hd c, hq]
 push_cast; rfl
theorem pow256 (m : Nat) : (256 : Int) ^ m = 2 ^ (8 * m) := by rw [Int.pow_mul]; rfl
theorem orByte {A x : Int} {m k : Nat} (hk : k + (m + 1) <= 8) (hA : 0 <= A /\ A < 256 ^ k) (hx : 0 <= x /\ x <= 255) : bOr .u64 (A * 256 ^ (m + 1)) (sShl .u64 x ((8 * m : Nat) : Int)) = (A * 256 + x) * 256 ^ m := by
 have hp : (0 : Int) < 256 ^ m := Int.pow_pos (by decide)
 have h8 : (256 : Int) ^ (k + (m + 1)) <= 256 ^ 8 := by
  have h := Nat.pow_le_pow_right (n := 256) (by decide) hk
  have e1 : ((256 ^ (k + (m + 1)) : Nat) : Int) = (256 : Int) ^ (k + (m + 1)) := by rw [Int.natCast_pow]; rfl
  have e2 : ((256 ^ 8 : Nat) : Int) = (256 : Int) ^ 8 := by rw [Int.natCast_pow]; rfl
  rw [<- e1, <- e2]; exact Int.ofNat_le.2 h
 have hA2 : A * 256 ^ (m + 1) + 256 ^ (m + 1) <= 256 ^ (k + (m + 1)) := by
  have e : A * 256 ^ (m + 1) + 256 ^ (m + 1) = (A + 1) * 256 ^ (m + 1) := by rw [Int.add_mul, Int.one_mul]
  rw [e, Int.pow_add 256 k (m + 1)]
  exact Int.mul_le_mul_of_nonneg_right (by omega) (Int.le_of_lt (Int.pow_pos (show (0 : Int) < 256 by decide)))
 have hA0 : 0 <= A * 256 ^ (m + 1) := Int.mul_nonneg hA.1 (Int.le_of_lt (Int.pow_pos (show (0 : Int) < 256 by decide)))
 have hx1 : 0 <= x * 256 ^ m := Int.mul_nonneg hx.1 (Int.le_of_lt hp)
 have hx2 : x * 256 ^ m < 256 ^ (m + 1) := by
  rw [Int.pow_succ, Int.mul_comm (256 ^ m) 256]
  exact Int.mul_lt_mul_of_pos_right (by omega) hp
 have e8 : (256 : Int) ^ 8 = 18446744073709551616 := by decide
 have hs : sShl .u64 x ((8 * m : Nat) : Int) = x * 256 ^ m := by
  unfold sShl
  have hmin : min (((8 * m : Nat) : Int)).toNat (IntKind.u64.bits) = 8 * m := by
   show min (((8 * m : Nat) : Int)).toNat 64 = 8 * m
   omega
  rw [hmin, <- pow256]
  exact wrapU64 ⟨hx1, by omega⟩
 rw [hs, orAdd .u64 (8 * (m + 1)) _ _ (by show 8 * (m + 1) <= 64; omega) (by rw [<- pow256]; exact Int.mul_emod_left _ _) ⟨hx1, by rw [<- pow256]; exact hx2⟩]
 have hb : (2 : Int) ^ IntKind.u64.bits = 18446744073709551616 := by decide
 rw [hb, Int.emod_eq_of_lt hA0 (by omega), wrapU64 ⟨by omega, by omega⟩, Int.pow_succ]
 grind
theorem get_R0 {b : List Int} (hb : ByteL b) {at_ sz : Nat} (hat : at_ + sz <= b.length) (hlen : b.length <= 1000000000) (hsz : sz <= 8) (x1 x2 : Int) : ∀ (m k : Nat) (A : Int), k + m = sz -> 0 <= A /\ A < 256 ^ k ->
  qak_R0 m k b x1 x2 (A * 256 ^ m) (sz : Int) (at_ : Int) = some (((b, ()), (x1, ()), (x2, ()), (A * 256 ^ m + beF b (at_ + k) m, ()), ()), .inl ())
 | 0, k, A, hk, hA => by rw [qak_R0_zero]; simp [beF]
 | m + 1, k, A, hk, hA => by
  have e1 : IntKind.i64.wrap ((at_ : Int) + (k : Int)) = ((at_ + k : Nat) : Int) := by rw [wrap64 (by omega)]; omega
  have e2 : IntKind.i64.wrap (8 * IntKind.i64.wrap (IntKind.i64.wrap ((sz : Int) - 1) - (k : Int))) = ((8 * m : Nat) : Int) := by
   rw [wrap64 (x := (sz : Int) - 1) (by omega), wrap64 (x := (sz : Int) - 1 - (k : Int)) (by omega), wrap64 (by omega)]; omega
  rw [qak_R0_succ, e1, e2, if_pos (by omega), if_neg (by omega)]
  have hx := hb.getD (at_ + k)
  have e3 : IntKind.u64.wrap (b.getD (((at_ + k : Nat) : Int)).toNat 0) = b.getD (at_ + k) 0 := by rw [Int.toNat_natCast]; exact wrapU64 ⟨hx.1, by omega⟩
  rw [e3, orByte (by omega) hA hx, get_R0 hb hat hlen hsz x1 x2 m (k + 1) (A * 256 + b.getD (at_ + k) 0) (by omega) ⟨by omega, by rw [Int.pow_succ]; omega⟩]
  rw [beF, Int.pow_succ, show at_ + k + 1 = at_ + (k + 1) by omega]
  congr 6
  grind
theorem sizes_p : qbl BIG = some ((), (([false, true, true, false, true, false, false, false, true] : List Bool), ())) := qbl_eq BIG
theorem sized_at (x : Int) (h0 : 0 <= x) (h9 : x < 9) : ([false, true, true, false, true, false, false, false, true] : List Bool).getD x.toNat false = sizedP x := by
 have : x = 0 \/ x = 1 \/ x = 2 \/ x = 3 \/ x = 4 \/ x = 5 \/ x = 6 \/ x = 7 \/ x = 8 := by omega
 rcases this with h | h | h | h | h | h | h | h | h <;> subst h <;> rfl
theorem sized_cases {x : Int} (h : sizedP x = true) : x = 1 \/ x = 2 \/ x = 4 \/ x = 8 := by
 unfold sizedP at h; simp at h; omega
theorem sized_out {x : Int} (h : x < 0 \/ 9 <= x) : sizedP x = false := by
 unfold sizedP; simp; omega
def placeP (len at_ size : Int) : Int := if sizedP size = true then (if at_ < 0 \/ at_ > len - size then 112 else 0) else 2
theorem checkG_p (b : List Int) (at_ size : Int) (hlen : b.length <= 1000000000) : qw BIG b at_ size = some ((), if placeP b.length at_ size = 0 then .inl () else .inr (placeP b.length at_ size, ())) := by
 obtain ⟨n, e⟩ : ∃ n : Nat, (BIG : Nat) = n + 1 + 1 := ⟨999999998, rfl⟩
 rw [qw_eq, sizes_p, obind_of, e]
 have hj : ∀ s, s = !sizedP size -> qw_J1 (n + 1 + 1) b at_ size s = some ((), if placeP b.length at_ size = 0 then .inl () else .inr (placeP b.length at_ size, ())) := by
  intro s hs
  rw [qw_J1_eq, hs, forkB_if]
  cases hz : sizedP size with
  | false => rw [show placeP b.length at_ size = 2 by unfold placeP; rw [hz]; rfl]; rfl
  | true =>
   have := sized_cases hz
   rw [if_neg (by decide), qw_J0_eq, wrap64 (by omega), forkB_if, forkB_if]
   by_cases h1 : at_ < 0
   ·rw [if_pos (by simpa using h1), show placeP b.length at_ size = 112 by unfold placeP; rw [if_pos hz, if_pos (.inl h1)]]; rfl
   ·rw [if_neg (by simpa using h1)]
    by_cases h2 : at_ > (b.length : Int) - size
    ·rw [if_pos (by simpa using h2), show placeP b.length at_ size = 112 by unfold placeP; rw [if_pos hz, if_pos (.inr h2)]]; rfl
    ·rw [if_neg (by simpa using h2), show placeP b.length at_ size = 0 by unfold placeP; rw [if_pos hz, if_neg (by omega)]]; rfl
 rw [forkB_if, forkB_if]
 by_cases h1 : size < 0
 ·rw [if_pos (by simpa using h1), hj _ (by rw [sized_out (.inl h1)]; rfl)]
 ·rw [if_neg (by simpa using h1)]
  by_cases h2 : size >= 9
  ·rw [if_pos (by simpa using h2), hj _ (by rw [sized_out (.inr h2)]; rfl)]
  ·rw [if_neg (by simpa using h2), if_pos (by omega), hj _ (by rw [sized_at _ (by omega) (by omega)])]
def getP (b : List Int) (at_ size : Int) : Int × Int := if placeP b.length at_ size = 0 then (beF b at_.toNat size.toNat, 0) else (0, placeP b.length at_ size)
theorem get_p (b : List Int) (hb : ByteL b) (at_ size : Int) (hlen : b.length <= 1000000000) : qbw BIG b at_ size = some (getP b at_ size) := by
 rw [qbw_eq, qbf_eq, qak_eq, checkG_p b at_ size hlen]
 unfold getP
 by_cases h : placeP b.length at_ size = 0
 ·simp only [if_pos h, obind_of]
  have hz : sizedP size = true := by unfold placeP at h; split at h; assumption; cases h
  have hr : ¬ (at_ < 0 \/ at_ > (b.length : Int) - size) := by unfold placeP at h; rw [if_pos hz] at h; intro hc; rw [if_pos hc] at h; cases h
  have hs := sized_cases hz
  rw [qbm_eq]
  simp only [obind_of]
  rw [forkB_if, if_pos (by simp; omega)]
  have hR := get_R0 hb (at_ := at_.toNat) (sz := size.toNat) (by omega) hlen (by omega) at_ size size.toNat 0 0 (by omega) ⟨by decide, by decide⟩
  rw [show ((size.toNat : Nat) : Int) = size by omega, show ((at_.toNat : Nat) : Int) = at_ by omega, Int.zero_mul] at hR
  simp only [hR, obind_of, qcg_eq, Nat.add_zero, Int.zero_add]
 ·simp only [if_neg h, obind_of, qch_eq]
theorem take512 {b : List Int} (h : b.length = 512) : List.take 512 (List.drop 0 b) = b := by rw [List.drop_zero, List.take_of_length_le (by omega)]
def setF (v : Int) : List Int -> Nat -> Nat -> List Int
 | b, _, 0 => b
 | b, p, m + 1 => setF v (b.set p (v / 256 ^ m % 256)) (p + 1) m
theorem setF_len (v : Int) : ∀ (m : Nat) (b : List Int) (p : Nat), (setF v b p m).length = b.length
 | 0, b, p => rfl
 | m + 1, b, p => by rw [setF, setF_len v m]; simp
theorem setF_bytes {v : Int} : ∀ (m : Nat) {b : List Int} (p : Nat), ByteL b -> ByteL (setF v b p m)
 | 0, b, p, h => h
 | m + 1, b, p, h => by
  rw [setF]
  refine setF_bytes m (p + 1) fun x hx => ?_
  rcases List.mem_or_eq_of_mem_set hx with hx | hx
  ·exact h x hx
  ·subst hx; omega
theorem wu8 (x : Int) : IntKind.u8.wrap x = x % 256 := by
 unfold IntKind.wrap; simp [IntKind.bits, IntKind.signed]
theorem set_R0 {at_ sz : Nat} (hat : at_ + sz <= 512) (hsz : sz <= 8) (r : List Val) (se : List Bool) (pk : List Int) (pc x1 x2 v : Int) : ∀ (m k : Nat) (b : List Int), k + m = sz ->
  qam_R0 m k 0 512 r b se pk pc x1 x2 v (sz : Int) (at_ : Int) = some ((((0, 512), ()), (r, setF v b (at_ + k) m, se, pk, pc, (), ()), (x1, ()), (x2, ()), (v, ()), ()), .inl ())
 | 0, k, b, hk => by rw [qam_R0_zero]; rfl
 | m + 1, k, b, hk => by
  have e1 : IntKind.i64.wrap ((at_ : Int) + (k : Int)) = ((at_ + k : Nat) : Int) := by rw [wrap64 (by omega)]; omega
  have e2 : IntKind.i64.wrap (8 * IntKind.i64.wrap (IntKind.i64.wrap ((sz : Int) - 1) - (k : Int))) = ((8 * m : Nat) : Int) := by
   rw [wrap64 (x := (sz : Int) - 1) (by omega), wrap64 (x := (sz : Int) - 1 - (k : Int)) (by omega), wrap64 (by omega)]; omega
  have e3 : IntKind.u8.wrap (sShr .u64 v ((8 * m : Nat) : Int)) = v / 256 ^ m % 256 := by
   rw [wu8]; unfold sShr
   have hmin : min (((8 * m : Nat) : Int)).toNat (IntKind.u64.bits) = 8 * m := by
    show min (((8 * m : Nat) : Int)).toNat 64 = 8 * m
    omega
   rw [hmin, <- pow256, Int.fdiv_eq_ediv_of_nonneg _ (Int.le_of_lt (Int.pow_pos (by decide)))]
  rw [qam_R0_succ, e1, e2, e3, if_neg (by omega), if_pos (by omega), Int.toNat_natCast, Nat.zero_add, set_R0 hat hsz r se pk pc x1 x2 v m (k + 1) _ (by omega)]
  rfl
theorem checkS_p (r : List Val) (b : List Int) (se : List Bool) (pk : List Int) (pc at_ size : Int) : qab BIG r b se pk pc 0 512 at_ size = some (((r, b, se, pk, pc, (), ()), ()), if placeP 512 at_ size = 0 then .inl () else .inr (placeP 512 at_ size, ())) := by
 obtain ⟨n, e⟩ : ∃ n : Nat, (BIG : Nat) = n + 1 + 1 := ⟨999999998, rfl⟩
 rw [qab_eq, sizes_p, obind_of, e]
 have hj : ∀ s, s = !sizedP size -> qab_J1 (n + 1 + 1) 0 512 at_ size s r b se pk pc = some (((r, b, se, pk, pc, (), ()), ()), if placeP 512 at_ size = 0 then .inl () else .inr (placeP 512 at_ size, ())) := by
  intro s hs
  rw [qab_J1_eq, hs, forkB_if]
  cases hz : sizedP size with
  | false => rw [show placeP 512 at_ size = 2 by unfold placeP; rw [hz]; rfl]; rfl
  | true =>
   have := sized_cases hz
   rw [if_neg (by decide), qab_J0_eq, wrap64 (by omega), forkB_if, forkB_if]
   by_cases h1 : at_ < 0
   ·rw [if_pos (by simpa using h1), show placeP 512 at_ size = 112 by unfold placeP; rw [if_pos hz, if_pos (.inl h1)]]; rfl
   ·rw [if_neg (by simpa using h1)]
    by_cases h2 : at_ > 512 - size
    ·rw [if_pos (by simpa using h2), show placeP 512 at_ size = 112 by unfold placeP; rw [if_pos hz, if_pos (.inr h2)]]; rfl
    ·rw [if_neg (by simpa using h2), show placeP 512 at_ size = 0 by unfold placeP; rw [if_pos hz, if_neg (by omega)]]; rfl
 rw [forkB_if, forkB_if]
 by_cases h1 : size < 0
 ·rw [if_pos (by simpa using h1), hj _ (by rw [sized_out (.inl h1)]; rfl)]
 ·rw [if_neg (by simpa using h1)]
  by_cases h2 : size >= 9
  ·rw [if_pos (by simpa using h2), hj _ (by rw [sized_out (.inr h2)]; rfl)]
  ·rw [if_neg (by simpa using h2), if_pos (by omega), hj _ (by rw [sized_at _ (by omega) (by omega)])]
def setP (b : List Int) (at_ size v : Int) : List Int × Int := if placeP 512 at_ size = 0 then (setF v b at_.toNat size.toNat, 0) else (b, placeP 512 at_ size)
theorem set_p (r : List Val) (b : List Int) (se : List Bool) (pk : List Int) (pc at_ size v : Int) : qcr BIG r b se pk pc 0 512 at_ size v = some (((r, (setP b at_ size v).1, se, pk, pc, (), ()), ()), ((setP b at_ size v).2, ())) := by
 rw [qcr_eq, qbu_eq, qam_eq, checkS_p r b se pk pc at_ size]
 unfold setP
 by_cases h : placeP 512 at_ size = 0
 ·simp only [if_pos h, obind_of]
  have hz : sizedP size = true := by unfold placeP at h; split at h; assumption; cases h
  have hr : ¬ (at_ < 0 \/ at_ > 512 - size) := by unfold placeP at h; rw [if_pos hz] at h; intro hc; rw [if_pos hc] at h; cases h
  have hs := sized_cases hz
  rw [qbm_eq]
  simp only [obind_of]
  rw [forkB_if, if_pos (by simp; omega)]
  have hR := set_R0 (at_ := at_.toNat) (sz := size.toNat) (by omega) (by omega) r se pk pc at_ size v size.toNat 0 b (by omega)
  rw [show ((size.toNat : Nat) : Int) = size by omega, show ((at_.toNat : Nat) : Int) = at_ by omega] at hR
  simp only [hR, obind_of, qcg_eq, Nat.add_zero]
 ·simp only [if_neg h, obind_of, qch_eq]
end Go.Y
namespace Go.Y
open Go.RowKit Go.V Go.X Go.Proofs
structure MS where
 R : List Val
 B : List Int
 S : List Bool
abbrev rg (R : List Val) (r : Int) : Val := R.getD r.toNat dVal
def ask1 (R : List Val) (r : Int) : Int := if (rg R r).kind = 0 then 110 else 0
def secV (i : Ins) (R : List Val) : Val := if i.UseImm = true then ⟨1, IntKind.u64.wrap i.Imm⟩ else rg R i.Src
def secE (i : Ins) (R : List Val) : Int := if i.UseImm = true then 0 else ask1 R i.Src
def bothE (i : Ins) (R : List Val) : Int := if ask1 R i.Dst ≠ 0 then ask1 R i.Dst else secE i R
abbrev OutT := Option (((List Val × List Int × List Bool × List Int × Int × Unit × Unit) × Unit) × (Int × Unit))
def out (s : MS) (P : List Int) (pc e : Int) : OutT := some (((s.R, s.B, s.S, P, pc, (), ()), ()), (e, ()))
variable (R : List Val) (B : List Int) (S : List Bool) (P : List Int) (pc : Int)
theorem asks1_k (r : Int) : qg BIG R B S P pc [r] = if 0 <= r /\ r < ((11 : Nat) : Int) then forkB ((rg R r).kind == 0) (some (((R, B, S, P, pc, (), ()), [r], ()), ((110 : Int), ()))) (some (((R, B, S, P, pc, (), ()), [r], ()), ((0 : Int), ()))) else none := by kernel_rfl
theorem asks2_k (r q : Int) : qg BIG R B S P pc [r, q] = if 0 <= r /\ r < ((11 : Nat) : Int) then forkB ((rg R r).kind == 0) (some (((R, B, S, P, pc, (), ()), [r, q], ()), ((110 : Int), ()))) (if 0 <= q /\ q < ((11 : Nat) : Int) then forkB ((rg R q).kind == 0) (some (((R, B, S, P, pc, (), ()), [r, q], ()), ((110 : Int), ()))) (some (((R, B, S, P, pc, (), ()), [r, q], ()), ((0 : Int), ()))) else none) else none := by kernel_rfl
theorem asks0_k : qk BIG R B S P pc = some (((R, B, S, P, pc, (), ()), ()), ((0 : Int), ())) := by kernel_rfl
theorem asks1_p {r : Int} (h : 0 <= r /\ r <= 10) : qg BIG R B S P pc [r] = some (((R, B, S, P, pc, (), ()), [r], ()), (ask1 R r, ())) := by
 rw [asks1_k, if_pos (by omega), forkB_if]
 unfold ask1
 by_cases h0 : (rg R r).kind = 0
 ·rw [if_pos (by simpa using h0), if_pos h0]
 ·rw [if_neg (by simpa using h0), if_neg h0]
theorem asks2_p {r q : Int} (h : 0 <= r /\ r <= 10) (h' : 0 <= q /\ q <= 10) : qg BIG R B S P pc [r, q] = some (((R, B, S, P, pc, (), ()), [r, q], ()), (if ask1 R r ≠ 0 then ask1 R r else ask1 R q, ())) := by
 rw [asks2_k, if_pos (by omega), if_pos (by omega), forkB_if, forkB_if]
 unfold ask1
 by_cases h0 : (rg R r).kind = 0
 ·rw [if_pos (by simpa using h0), if_pos h0, if_pos (by decide)]
 ·rw [if_neg (by simpa using h0), if_neg h0, if_neg (show ¬ ((0 : Int) ≠ 0) by decide)]
  by_cases h1 : (rg R q).kind = 0
  ·rw [if_pos (by simpa using h1), if_pos h1]
  ·rw [if_neg (by simpa using h1), if_neg h1]
theorem second1_p {i : Ins} (h : i.UseImm = false -> 0 <= i.Src /\ i.Src <= 10) : qaz BIG R B S P pc i = some (((R, B, S, P, pc, (), ()), ()), (secV i R, secE i R, ())) := by
 rw [qaz_eq]
 unfold secV secE
 cases hu : i.UseImm with
 | true => rw [forkB_if, if_neg (by decide), if_pos rfl, if_pos rfl, qal_eq, obind_of, asks0_k, obind_of]
 | false =>
  have := h hu
  rw [forkB_if, if_pos (by decide), if_pos (by omega), asks1_p R B S P pc this, obind_of, if_neg (by decide), if_neg (by decide)]
theorem second2_p {i : Ins} (hd : 0 <= i.Dst /\ i.Dst <= 10) (h : i.UseImm = false -> 0 <= i.Src /\ i.Src <= 10) : qba BIG R B S P pc i [i.Dst] = some (((R, B, S, P, pc, (), ()), (), ()), (secV i R, bothE i R, ())) := by
 rw [qba_eq]
 unfold secV bothE secE
 cases hu : i.UseImm with
 | true =>
  rw [forkB_if, if_neg (by decide), if_pos rfl, if_pos rfl, qal_eq, obind_of, asks1_p R B S P pc hd, obind_of]
  by_cases h0 : ask1 R i.Dst = 0
  ·rw [h0]; rfl
  ·rw [if_pos h0]
 | false =>
  have := h hu
  rw [forkB_if, if_pos (by decide), if_pos (by omega), if_pos (by simp), show ([i.Dst] ++ [i.Src] : List Int) = [i.Dst, i.Src] from rfl, asks2_p R B S P pc hd this, obind_of, if_neg (show ¬ (false = true) by decide), if_neg (show ¬ (false = true) by decide)]
def mvP (i : Ins) (s : MS) : Int × MS :=
 if secE i s.R ≠ 0 then (secE i s.R, s) else if i.Narrow = true /\ (secV i s.R).kind ≠ 1 then (114, s)
 else (0, { s with R := s.R.set i.Dst.toNat ⟨(secV i s.R).kind, if i.Narrow = true then IntKind.u64.wrap (IntKind.u32.wrap (secV i s.R).n) else (secV i s.R).n⟩ })
theorem move_p {i : Ins} (hd : 0 <= i.Dst /\ i.Dst <= 10) (h : i.UseImm = false -> 0 <= i.Src /\ i.Src <= 10) : qz BIG R B S P pc i = out (mvP i ⟨R, B, S⟩).2 P pc (mvP i ⟨R, B, S⟩).1 := by
 obtain ⟨n, e⟩ : ∃ n : Nat, (BIG : Nat) = n + 1 + 1 := ⟨999999998, rfl⟩
 rw [qz_eq, second1_p R B S P pc h, obind_of, forkB_if]
 unfold mvP
 simp only
 by_cases h0 : secE i R = 0
 ·rw [if_neg (by simpa using h0), if_neg (by simpa using h0), e, forkB_if]
  cases hn : i.Narrow with
  | true =>
   rw [if_pos rfl, qz_J1_eq, forkB_if]
   by_cases hk : (secV i R).kind = 1
   ·rw [if_neg (by simpa using hk), forkB_if, if_pos rfl, qz_J0_eq, if_pos (by omega), if_neg (by simp [hk])]; rfl
   ·rw [if_pos (by simpa using hk), if_pos ⟨rfl, hk⟩]; rfl
  | false =>
   rw [if_neg (by decide), qz_J1_eq, forkB_if, if_neg (by decide), forkB_if, if_neg (by decide), qz_J0_eq, if_pos (by omega), if_neg (by simp)]; rfl
 ·rw [if_pos (by simpa using h0), if_pos (by simpa using h0)]; rfl
def ngP (i : Ins) (s : MS) : Int × MS :=
 if ask1 s.R i.Dst ≠ 0 then (ask1 s.R i.Dst, s) else if (rg s.R i.Dst).kind ≠ 1 then (114, s)
 else ((aluP i.Op i.Narrow (rg s.R i.Dst).n 0).2, { s with R := s.R.set i.Dst.toNat ⟨(rg s.R i.Dst).kind, (aluP i.Op i.Narrow (rg s.R i.Dst).n 0).1⟩ })
theorem turn_p {i : Ins} (hd : 0 <= i.Dst /\ i.Dst <= 10) : qcq BIG R B S P pc i = out (ngP i ⟨R, B, S⟩).2 P pc (ngP i ⟨R, B, S⟩).1 := by
 rw [qcq_eq, asks1_p R B S P pc hd, obind_of, forkB_if]
 unfold ngP
 simp only
 by_cases h0 : ask1 R i.Dst = 0
 ·rw [if_neg (by simpa using h0), if_pos (by omega), forkB_if, if_neg (show ¬ (ask1 R i.Dst ≠ 0) from fun h => h h0)]
  by_cases hk : (rg R i.Dst).kind = 1
  ·rw [if_neg (by simpa using hk), if_neg (show ¬ ((rg R i.Dst).kind ≠ 1) from fun h => h hk), alu_p _ _ _ _ ⟨by decide, by decide⟩, obind_of]; rfl
  ·rw [if_pos (by simpa using hk), if_pos hk]; rfl
 ·rw [if_pos (by simpa using h0), if_pos (by simpa using h0)]; rfl
def frP (n : Int) (i : Ins) : Int × Int :=
 let k := IntKind.i64.wrap (IntKind.i64.wrap (IntKind.u64.wrap (n + IntKind.u64.wrap i.Off)) + 512)
 if k < 0 \/ k > 512 - i.Size then (0, 112) else (k, 0)
theorem frame_p (n : Int) (i : Ins) (hs : 0 <= i.Size /\ i.Size <= 8) : qbn BIG n i = some (frP n i) := by
 rw [qbn_eq, qal_eq, obind_of, wrap64 (x := 512 - i.Size) (by omega)]
 unfold frP
 simp only [forkB_if, decide_eq_true_eq]
 by_cases h1 : IntKind.i64.wrap (IntKind.i64.wrap (IntKind.u64.wrap (n + IntKind.u64.wrap i.Off)) + 512) < 0
 ·rw [if_pos h1, if_pos (.inl h1)]
 ·rw [if_neg h1]
  by_cases h2 : IntKind.i64.wrap (IntKind.i64.wrap (IntKind.u64.wrap (n + IntKind.u64.wrap i.Off)) + 512) > 512 - i.Size
  ·rw [if_pos h2, if_pos (.inr h2)]
  ·rw [if_neg h2, if_neg (by omega)]
theorem fr_ok {n : Int} {i : Ins} (h : (frP n i).2 = 0) : 0 <= (frP n i).1 /\ (frP n i).1 <= 512 - i.Size := by
 unfold frP at h ⊢
 simp only at h ⊢
 split at h
 ·cases h
 ·rename_i hn; rw [if_neg hn]; simp only; omega
def allS (S : List Bool) : Nat -> Nat -> Bool
 | _, 0 => true
 | p, m + 1 => S.getD p false && allS S (p + 1) m
def ldP (i : Ins) (P : List Int) (s : MS) : Int × MS :=
 if ask1 s.R i.Src ≠ 0 then (ask1 s.R i.Src, s) else if (rg s.R i.Src).kind = 1 then (111, s)
 else if (rg s.R i.Src).kind = 2 then
  (if (getP P (IntKind.i64.wrap (IntKind.u64.wrap ((rg s.R i.Src).n + IntKind.u64.wrap i.Off))) i.Size).2 ≠ 0 then ((getP P (IntKind.i64.wrap (IntKind.u64.wrap ((rg s.R i.Src).n + IntKind.u64.wrap i.Off))) i.Size).2, s)
   else (0, { s with R := s.R.set i.Dst.toNat ⟨1, (getP P (IntKind.i64.wrap (IntKind.u64.wrap ((rg s.R i.Src).n + IntKind.u64.wrap i.Off))) i.Size).1⟩ }))
 else if (frP (rg s.R i.Src).n i).2 ≠ 0 then ((frP (rg s.R i.Src).n i).2, s)
 else if allS s.S (frP (rg s.R i.Src).n i).1.toNat i.Size.toNat = false then (110, s)
 else (0, { s with R := s.R.set i.Dst.toNat ⟨1, beF s.B (frP (rg s.R i.Src).n i).1.toNat i.Size.toNat⟩ })
theorem load_L1 (i : Ins) (hd : 0 <= i.Dst /\ i.Dst <= 10) (hz : sizedP i.Size = true) (hB : ByteL B) (hl : B.length = 512) (p : Nat) (hp : (p : Int) <= 512 - i.Size) : ∀ (m k n : Nat), (k : Int) + m = i.Size -> m + 2 <= n ->
  qx_L1 n (p : Int) i.Size (k : Int) R B S P pc i.Op i.Narrow i.Dst i.Src i.UseImm i.Off i.Imm i.Size =
   if allS S (p + k) m = false then out ⟨R, B, S⟩ P pc 110 else out ⟨R.set i.Dst.toNat ⟨1, beF B p i.Size.toNat⟩, B, S⟩ P pc 0
 | 0, k, n, hk, hn => by
  obtain ⟨n, rfl⟩ : ∃ n', n = n' + 1 + 1 := ⟨n - 2, by omega⟩
  have hs := sized_cases hz
  rw [qx_L1_eq, forkB_if, if_neg (by simp; omega), take512 hl, get_p B hB _ _ (by omega), obind_of, qx_J0_eq, if_pos (by omega)]
  have : placeP B.length (p : Int) i.Size = 0 := by unfold placeP; rw [if_pos hz, if_neg (by omega)]
  unfold getP
  rw [if_pos this, if_neg (by simp [allS])]
  rfl
 | m + 1, k, n, hk, hn => by
  obtain ⟨n, rfl⟩ : ∃ n', n = n' + 1 := ⟨n - 1, by omega⟩
  have hs := sized_cases hz
  have e1 : IntKind.i64.wrap ((p : Int) + (k : Int)) = ((p + k : Nat) : Int) := by rw [wrap64 (by omega)]; omega
  have e2 : IntKind.i64.wrap ((k : Int) + 1) = ((k + 1 : Nat) : Int) := by rw [wrap64 (by omega)]; omega
  rw [qx_L1_eq, forkB_if, if_pos (by simp; omega), e1, e2, if_pos (by omega), Int.toNat_natCast, forkB_if, allS]
  cases hb : S.getD (p + k) false with
  | false => rw [if_pos (by decide), if_pos (by simp)]; rfl
  | true =>
   rw [if_neg (by decide), load_L1 i hd hz hB hl p hp m (k + 1) n (by omega) (by omega), Bool.true_and, show p + k + 1 = p + (k + 1) by omega]
theorem load_p {i : Ins} (hd : 0 <= i.Dst /\ i.Dst <= 10) (hs : 0 <= i.Src /\ i.Src <= 10) (hz : sizedP i.Size = true) (hB : ByteL B) (hl : B.length = 512) (hP : ByteL P) (hPl : P.length <= 65535) :
  qx BIG R B S P pc i = out (ldP i P ⟨R, B, S⟩).2 P pc (ldP i P ⟨R, B, S⟩).1 := by
 obtain ⟨n, e⟩ : ∃ n : Nat, (BIG : Nat) = n + 20 := ⟨999999980, rfl⟩
 have hc := sized_cases hz
 rw [qx_eq, asks1_p R B S P pc hs, obind_of, forkB_if]
 unfold ldP
 simp only
 by_cases h0 : ask1 R i.Src = 0
 ·rw [if_neg (by simpa using h0), if_pos (by omega), forkB_if, if_neg (show ¬ (ask1 R i.Src ≠ 0) from fun h => h h0)]
  by_cases hk : (rg R i.Src).kind = 1
  ·rw [if_pos (by simpa using hk), if_pos hk]; rfl
  ·rw [if_neg (by simpa using hk), if_neg hk, forkB_if]
   by_cases hk2 : (rg R i.Src).kind = 2
   ·rw [if_pos (by simpa using hk2), if_pos hk2, qal_eq, obind_of, get_p P hP _ _ (by omega), obind_of, forkB_if]
    by_cases h2 : (getP P (IntKind.i64.wrap (IntKind.u64.wrap ((rg R i.Src).n + IntKind.u64.wrap i.Off))) i.Size).2 = 0
    ·rw [if_neg (by simpa using h2), if_neg (by simpa using h2), e, qx_J0_eq, if_pos (by omega)]; rfl
    ·rw [if_pos (by simpa using h2), if_pos h2]; rfl
   ·rw [if_neg (by simpa using hk2), if_neg hk2, frame_p _ _ (by omega), obind_of, forkB_if]
    by_cases h2 : (frP (rg R i.Src).n i).2 = 0
    ·rw [if_neg (by simpa using h2), if_neg (by simpa using h2)]
     have hf := fr_ok h2
     have := load_L1 R B S P pc i hd hz hB hl (frP (rg R i.Src).n i).1.toNat (by omega) i.Size.toNat 0 (n + 20) (by omega) (by omega)
     rw [show (((frP (rg R i.Src).n i).1.toNat : Nat) : Int) = (frP (rg R i.Src).n i).1 by omega] at this
     rw [e]
     refine this.trans ?_
     rw [Nat.add_zero]
     split <;> rfl
    ·rw [if_pos (by simpa using h2), if_pos h2]; rfl
 ·rw [if_pos (by simpa using h0), if_pos (by simpa using h0)]; rfl
def setS : List Bool -> Nat -> Nat -> List Bool
 | S, _, 0 => S
 | S, p, m + 1 => setS (S.set p true) (p + 1) m
def ptP (i : Ins) (s : MS) : Int × MS :=
 if bothE i s.R ≠ 0 then (bothE i s.R, s) else if (rg s.R i.Dst).kind = 2 then (114, s)
 else if (rg s.R i.Dst).kind = 1 \/ (secV i s.R).kind ≠ 1 then (111, s)
 else if (frP (rg s.R i.Dst).n i).2 ≠ 0 then ((frP (rg s.R i.Dst).n i).2, s)
 else (0, { s with B := setF (secV i s.R).n s.B (frP (rg s.R i.Dst).n i).1.toNat i.Size.toNat, S := setS s.S (frP (rg s.R i.Dst).n i).1.toNat i.Size.toNat })
theorem put_L1 (i : Ins) (hz : sizedP i.Size = true) (a v : Int) (p : Nat) (hp : (p : Int) <= 512 - i.Size) : ∀ (m k n : Nat) (S : List Bool), (k : Int) + m = i.Size -> m + 2 <= n ->
  qy_L1 n (p : Int) i.Size (k : Int) R B S P pc i.Op i.Narrow i.Dst i.Src i.UseImm i.Off i.Imm i.Size a v = out ⟨R, setF v B p i.Size.toNat, setS S (p + k) m⟩ P pc 0
 | 0, k, n, S, hk, hn => by
  obtain ⟨n, rfl⟩ : ∃ n', n = n' + 1 + 1 := ⟨n - 2, by omega⟩
  have hs := sized_cases hz
  have : placeP 512 (p : Int) i.Size = 0 := by unfold placeP; rw [if_pos hz, if_neg (by omega)]
  rw [qy_L1_eq, forkB_if, if_neg (by simp; omega), set_p, obind_of]
  unfold setP
  rw [if_pos this]
  rfl
 | m + 1, k, n, S, hk, hn => by
  obtain ⟨n, rfl⟩ : ∃ n', n = n' + 1 := ⟨n - 1, by omega⟩
  have hs := sized_cases hz
  have e1 : IntKind.i64.wrap ((p : Int) + (k : Int)) = ((p + k : Nat) : Int) := by rw [wrap64 (by omega)]; omega
  have e2 : IntKind.i64.wrap ((k : Int) + 1) = ((k + 1 : Nat) : Int) := by rw [wrap64 (by omega)]; omega
  rw [qy_L1_eq, forkB_if, if_pos (by simp; omega), e1, e2, if_pos (by omega), Int.toNat_natCast, put_L1 i hz a v p hp m (k + 1) n _ (by omega) (by omega)]
  rfl
theorem put_p {i : Ins} (hd : 0 <= i.Dst /\ i.Dst <= 10) (h : i.UseImm = false -> 0 <= i.Src /\ i.Src <= 10) (hz : sizedP i.Size = true) : qy BIG R B S P pc i = out (ptP i ⟨R, B, S⟩).2 P pc (ptP i ⟨R, B, S⟩).1 := by
 obtain ⟨n, e⟩ : ∃ n : Nat, (BIG : Nat) = n + 20 + 1 := ⟨999999979, rfl⟩
 have hc := sized_cases hz
 rw [qy_eq, second2_p R B S P pc hd h, obind_of, if_pos (by omega), forkB_if]
 unfold ptP
 simp only
 by_cases h0 : bothE i R = 0
 ·rw [if_neg (by simpa using h0), if_neg (by simpa using h0), forkB_if]
  by_cases hk2 : (rg R i.Dst).kind = 2
  ·rw [if_pos (by simpa using hk2), if_pos hk2]; rfl
  ·rw [if_neg (by simpa using hk2), if_neg hk2, forkB_if]
   have hj : ∀ s, qy_J0 (n + 20 + 1) s R B S P pc i.Op i.Narrow i.Dst i.Src i.UseImm i.Off i.Imm i.Size (secV i R).kind (secV i R).n (rg R i.Dst).kind (rg R i.Dst).n =
     if s = true then out ⟨R, B, S⟩ P pc 111 else if (frP (rg R i.Dst).n i).2 ≠ 0 then out ⟨R, B, S⟩ P pc (frP (rg R i.Dst).n i).2 else out ⟨R, setF (secV i R).n B (frP (rg R i.Dst).n i).1.toNat i.Size.toNat, setS S (frP (rg R i.Dst).n i).1.toNat i.Size.toNat⟩ P pc 0 := by
    intro s
    rw [qy_J0_eq, forkB_if]
    cases s with
    | true => rw [if_pos rfl, if_pos rfl]; rfl
    | false =>
     rw [if_neg (by decide), if_neg (by decide), frame_p _ _ (by simp only; omega), obind_of, forkB_if]
     have ef : frP (rg R i.Dst).n ⟨i.Op, i.Narrow, i.Dst, i.Src, i.UseImm, i.Off, i.Imm, i.Size⟩ = frP (rg R i.Dst).n i := rfl
     rw [ef]
     by_cases h2 : (frP (rg R i.Dst).n i).2 = 0
     ·rw [if_neg (by simpa using h2), if_neg (by simpa using h2)]
      have hf := fr_ok h2
      have := put_L1 R B P pc i hz (secV i R).kind (secV i R).n (frP (rg R i.Dst).n i).1.toNat (by omega) i.Size.toNat 0 (n + 20) S (by omega) (by omega)
      rw [show (((frP (rg R i.Dst).n i).1.toNat : Nat) : Int) = (frP (rg R i.Dst).n i).1 by omega] at this
      exact this
     ·rw [if_pos (by simpa using h2), if_pos h2]; rfl
   rw [e]
   by_cases hk : (rg R i.Dst).kind = 1
   ·rw [if_pos (by simpa using hk), hj, if_pos rfl, if_pos (.inl hk)]
   ·rw [if_neg (by simpa using hk), hj]
    by_cases hv : (secV i R).kind = 1
    ·rw [if_neg (by simpa using hv), if_neg (show ¬ ((rg R i.Dst).kind = 1 \/ (secV i R).kind ≠ 1) from fun h => h.elim hk fun h => h hv)]
     split <;> rfl
    ·rw [if_pos (by simpa using hv), if_pos (.inr hv)]
 ·rw [if_pos (by simpa using h0), if_pos (by simpa using h0)]; rfl
def rkP (i : Ins) (s : MS) : Int × MS :=
 if bothE i s.R ≠ 0 then (bothE i s.R, s)
 else if (secV i s.R).kind ≠ 1 \/ (rg s.R i.Dst).kind ≠ 1 /\ ¬ ((i.Op = 1 \/ i.Op = 2) /\ i.Narrow = false) then (114, s)
 else if (aluP i.Op i.Narrow (rg s.R i.Dst).n (secV i s.R).n).2 = 0 then (0, { s with R := s.R.set i.Dst.toNat ⟨(rg s.R i.Dst).kind, (aluP i.Op i.Narrow (rg s.R i.Dst).n (secV i s.R).n).1⟩ })
 else ((aluP i.Op i.Narrow (rg s.R i.Dst).n (secV i s.R).n).2, s)
theorem reckon_p {i : Ins} (hd : 0 <= i.Dst /\ i.Dst <= 10) (h : i.UseImm = false -> 0 <= i.Src /\ i.Src <= 10) (hv : U64 (secV i R).n) : qt BIG R B S P pc i = out (rkP i ⟨R, B, S⟩).2 P pc (rkP i ⟨R, B, S⟩).1 := by
 obtain ⟨n, e⟩ : ∃ n : Nat, (BIG : Nat) = n + 1 + 1 := ⟨999999998, rfl⟩
 rw [qt_eq, second2_p R B S P pc hd h, obind_of, forkB_if]
 unfold rkP
 simp only
 by_cases h0 : bothE i R = 0
 ·rw [if_neg (by simpa using h0), if_pos (by omega), if_neg (show ¬ (bothE i R ≠ 0) from fun h => h h0)]
  have j1 : ∀ s, qt_J1 (n + 1) i.Dst.toNat s R B S P pc i.Op i.Narrow i.Dst i.Src i.UseImm i.Off i.Imm i.Size (secV i R).kind (secV i R).n =
    if s = true then out ⟨R, B, S⟩ P pc 114 else if (aluP i.Op i.Narrow (rg R i.Dst).n (secV i R).n).2 = 0 then out ⟨R.set i.Dst.toNat ⟨(rg R i.Dst).kind, (aluP i.Op i.Narrow (rg R i.Dst).n (secV i R).n).1⟩, B, S⟩ P pc 0 else out ⟨R, B, S⟩ P pc (aluP i.Op i.Narrow (rg R i.Dst).n (secV i R).n).2 := by
   intro s
   rw [qt_J1_eq, forkB_if]
   cases s with
   | true => rfl
   | false =>
    rw [if_neg (by decide), if_neg (by decide), alu_p _ _ _ _ hv, obind_of, forkB_if]
    by_cases h2 : (aluP i.Op i.Narrow (rg R i.Dst).n (secV i R).n).2 = 0
    ·rw [if_pos (by simpa using h2), if_pos h2, h2]; rfl
    ·rw [if_neg (by simpa using h2), if_neg h2]; rfl
  have j0 : ∀ mv : Bool, (mv = true ↔ (i.Op = 1 \/ i.Op = 2) /\ i.Narrow = false) -> qt_J0 (n + 1 + 1) i.Dst.toNat mv R B S P pc i.Op i.Narrow i.Dst i.Src i.UseImm i.Off i.Imm i.Size (secV i R).kind (secV i R).n =
    if (secV i R).kind ≠ 1 \/ (rg R i.Dst).kind ≠ 1 /\ ¬ ((i.Op = 1 \/ i.Op = 2) /\ i.Narrow = false) then out ⟨R, B, S⟩ P pc 114 else if (aluP i.Op i.Narrow (rg R i.Dst).n (secV i R).n).2 = 0 then out ⟨R.set i.Dst.toNat ⟨(rg R i.Dst).kind, (aluP i.Op i.Narrow (rg R i.Dst).n (secV i R).n).1⟩, B, S⟩ P pc 0 else out ⟨R, B, S⟩ P pc (aluP i.Op i.Narrow (rg R i.Dst).n (secV i R).n).2 := by
   intro mv hmv
   rw [qt_J0_eq, forkB_if, forkB_if, j1, j1, j1]
   by_cases hk : (secV i R).kind = 1
   ·rw [if_neg (by simpa using hk)]
    by_cases hr : (rg R i.Dst).kind = 1
    ·rw [if_neg (by simpa using hr), if_neg (show ¬ (false = true) by decide), if_neg (show ¬ ((secV i R).kind ≠ 1 \/ (rg R i.Dst).kind ≠ 1 /\ ¬ ((i.Op = 1 \/ i.Op = 2) /\ i.Narrow = false)) from fun h => h.elim (fun h => h hk) fun h => h.1 hr)]
    ·rw [if_pos (by simpa using hr)]
     cases mv with
     | true => rw [if_neg (show ¬ ((!true) = true) by decide), if_neg (show ¬ ((secV i R).kind ≠ 1 \/ (rg R i.Dst).kind ≠ 1 /\ ¬ ((i.Op = 1 \/ i.Op = 2) /\ i.Narrow = false)) from fun h => h.elim (fun h => h hk) fun h => h.2 (hmv.1 rfl))]
     | false => rw [if_pos (show (!false) = true by decide), if_pos (show ((secV i R).kind ≠ 1 \/ (rg R i.Dst).kind ≠ 1 /\ ¬ ((i.Op = 1 \/ i.Op = 2) /\ i.Narrow = false)) from .inr ⟨hr, fun h => absurd (hmv.2 h) (by decide)⟩)]
   ·rw [if_pos (by simpa using hk), if_pos (show true = true from rfl), if_pos (show ((secV i R).kind ≠ 1 \/ (rg R i.Dst).kind ≠ 1 /\ ¬ ((i.Op = 1 \/ i.Op = 2) /\ i.Narrow = false)) from .inl hk)]
  have fin : (if (secV i R).kind ≠ 1 \/ (rg R i.Dst).kind ≠ 1 /\ ¬ ((i.Op = 1 \/ i.Op = 2) /\ i.Narrow = false) then out ⟨R, B, S⟩ P pc 114 else if (aluP i.Op i.Narrow (rg R i.Dst).n (secV i R).n).2 = 0 then out ⟨R.set i.Dst.toNat ⟨(rg R i.Dst).kind, (aluP i.Op i.Narrow (rg R i.Dst).n (secV i R).n).1⟩, B, S⟩ P pc 0 else out ⟨R, B, S⟩ P pc (aluP i.Op i.Narrow (rg R i.Dst).n (secV i R).n).2) =
    out (if (secV i R).kind ≠ 1 \/ (rg R i.Dst).kind ≠ 1 /\ ¬ ((i.Op = 1 \/ i.Op = 2) /\ i.Narrow = false) then ((114 : Int), (⟨R, B, S⟩ : MS)) else if (aluP i.Op i.Narrow (rg R i.Dst).n (secV i R).n).2 = 0 then (0, ⟨R.set i.Dst.toNat ⟨(rg R i.Dst).kind, (aluP i.Op i.Narrow (rg R i.Dst).n (secV i R).n).1⟩, B, S⟩) else ((aluP i.Op i.Narrow (rg R i.Dst).n (secV i R).n).2, ⟨R, B, S⟩)).2 P pc
     (if (secV i R).kind ≠ 1 \/ (rg R i.Dst).kind ≠ 1 /\ ¬ ((i.Op = 1 \/ i.Op = 2) /\ i.Narrow = false) then ((114 : Int), (⟨R, B, S⟩ : MS)) else if (aluP i.Op i.Narrow (rg R i.Dst).n (secV i R).n).2 = 0 then (0, ⟨R.set i.Dst.toNat ⟨(rg R i.Dst).kind, (aluP i.Op i.Narrow (rg R i.Dst).n (secV i R).n).1⟩, B, S⟩) else ((aluP i.Op i.Narrow (rg R i.Dst).n (secV i R).n).2, ⟨R, B, S⟩)).1 := by
   split
   ·rfl
   ·split <;> rfl
  rw [e, forkB_if, forkB_if]
  refine Eq.trans ?_ fin
  by_cases h1 : i.Op = 1
  ·rw [if_pos (by simpa using h1)]; exact j0 _ (by cases i.Narrow <;> simp [h1])
  ·rw [if_neg (by simpa using h1)]
   by_cases h2 : i.Op = 2
   ·rw [if_pos (by simpa using h2)]; exact j0 _ (by cases i.Narrow <;> simp [h2])
   ·rw [if_neg (by simpa using h2)]; exact j0 _ (by simp [h1, h2])
 ·rw [if_pos (by simpa using h0), if_pos (by simpa using h0)]; rfl
def brE (i : Ins) (R : List Val) : Int := if bothE i R ≠ 0 then bothE i R else if (rg R i.Dst).kind ≠ 1 \/ (secV i R).kind ≠ 1 then 111 else 0
def brJ (i : Ins) (R : List Val) : Bool := decide (brE i R = 0) && (isP i.Op i.Narrow (rg R i.Dst).n (secV i R).n).1
theorem branch_p {i : Ins} (hd : 0 <= i.Dst /\ i.Dst <= 10) (h : i.UseImm = false -> 0 <= i.Src /\ i.Src <= 10) : qan BIG R B S P pc i = out ⟨R, B, S⟩ P (if brJ i R = true then IntKind.i64.wrap (pc + i.Off) else pc) (brE i R) := by
 obtain ⟨n, e⟩ : ∃ n : Nat, (BIG : Nat) = n + 1 := ⟨999999999, rfl⟩
 rw [qan_eq, second2_p R B S P pc hd h, obind_of, if_pos (by omega), forkB_if]
 by_cases h0 : bothE i R = 0
 ·have j : ∀ s, qan_J0 (n + 1) s R B S P pc i.Op i.Narrow i.Dst i.Src i.UseImm i.Off i.Imm i.Size (secV i R).kind (secV i R).n (rg R i.Dst).kind (rg R i.Dst).n =
    if s = true then out ⟨R, B, S⟩ P pc 111 else out ⟨R, B, S⟩ P (if (isP i.Op i.Narrow (rg R i.Dst).n (secV i R).n).1 = true then IntKind.i64.wrap (pc + i.Off) else pc) 0 := by
   intro s
   rw [qan_J0_eq, forkB_if]
   cases s with
   | true => rw [if_pos rfl, if_pos rfl]; rfl
   | false =>
    rw [if_neg (by decide), if_neg (by decide), is_p, obind_of, forkB_if]
    split <;> rfl
  have bad : (rg R i.Dst).kind ≠ 1 \/ (secV i R).kind ≠ 1 -> brE i R = 111 /\ brJ i R = false := fun hb => by
   have e1 : brE i R = 111 := by unfold brE; rw [if_neg (fun h => h h0), if_pos hb]
   exact ⟨e1, by unfold brJ; rw [e1]; rfl⟩
  rw [if_neg (show ¬ ((bothE i R != 0) = true) by simpa using h0), e, forkB_if]
  by_cases hk : (rg R i.Dst).kind = 1
  ·rw [if_neg (show ¬ (((rg R i.Dst).kind != 1) = true) by rw [bne_iff_ne]; exact fun h => h hk), j]
   by_cases hv : (secV i R).kind = 1
   ·have e1 : brE i R = 0 := by unfold brE; rw [if_neg (fun h => h h0), if_neg (fun h => h.elim (fun h => h hk) fun h => h hv)]
    have e2 : brJ i R = (isP i.Op i.Narrow (rg R i.Dst).n (secV i R).n).1 := by unfold brJ; rw [e1]; rfl
    rw [if_neg (show ¬ (((secV i R).kind != 1) = true) by rw [bne_iff_ne]; exact fun h => h hv), e1, e2]
   ·obtain ⟨e1, e2⟩ := bad (.inr hv)
    rw [if_pos (show ((secV i R).kind != 1) = true by simp only [bne_iff_ne, ne_eq]; exact hv), e1, e2]; rfl
  ·obtain ⟨e1, e2⟩ := bad (.inl hk)
   rw [if_pos (show ((rg R i.Dst).kind != 1) = true by simp only [bne_iff_ne, ne_eq]; exact hk), j, if_pos (show true = true from rfl), e1, e2]; rfl
 ·have e1 : brE i R = bothE i R := by unfold brE; rw [if_pos h0]
  have e2 : brJ i R = false := by unfold brJ; rw [e1]; simp [h0]
  rw [if_pos (show (bothE i R != 0) = true by simp only [bne_iff_ne, ne_eq]; exact h0), e1, e2]; rfl
def exE (R : List Val) : Int := if ask1 R 0 ≠ 0 then ask1 R 0 else if (rg R 0).kind ≠ 1 then 111 else 0
theorem exit1_p (i : Ins) (h : exE R ≠ 0) : qcs BIG R B S P pc i = out ⟨R, B, S⟩ P pc (exE R) := by
 rw [qcs_eq, asks1_p R B S P pc (by decide), obind_of, forkB_if]
 unfold exE at h ⊢
 by_cases h0 : ask1 R 0 = 0
 ·rw [if_neg (by simpa using h0)] at h ⊢
  rw [if_neg (by simpa using h0), forkB_if]
  by_cases hk : (rg R 0).kind = 1
  ·rw [if_neg (by simpa using hk)] at h; exact absurd rfl h
  ·have hk' : ((R.getD 0 dVal).kind != 1) = true := by simpa using hk
   rw [if_pos hk', if_pos hk]; rfl
 ·rw [if_pos (by simpa using h0), if_pos (by simpa using h0)]; rfl
theorem exit2_p (i : Ins) (h : exE R = 0) : qct BIG R B S P pc i = some (((R, B, S, P, pc, 0, ()), ()), ((0 : Int), ())) := by
 rw [qct_eq, asks1_p R B S P pc (by decide), obind_of, forkB_if]
 unfold exE at h
 by_cases h0 : ask1 R 0 = 0
 ·rw [if_neg (by simpa using h0)] at h
  rw [if_neg (by simpa using h0), forkB_if]
  by_cases hk : (rg R 0).kind = 1
  ·have hk' : ¬ ((R.getD 0 dVal).kind != 1) = true := by simpa using hk
   rw [if_neg hk']
  ·rw [if_pos hk] at h; cases h
 ·rw [if_pos (by simpa using h0)] at h; exact absurd h h0
theorem exitC_p : (match qg BIG R B S P pc [0] with | some y1 => ((y1.2.1 != (0 : Int)) || (((R.getD 0 dVal).kind) != (1 : Int))) | none => false) = decide (exE R ≠ 0) := by
 rw [asks1_p R B S P pc (by decide)]
 unfold exE
 by_cases h0 : ask1 R 0 = 0
 ·have e : (ask1 R 0 != 0) = false := by simpa using h0
  simp only [e, Bool.false_or, h0]
  rw [if_neg (show ¬ ((0 : Int) ≠ 0) by decide)]
  by_cases hk : (rg R 0).kind = 1
  ·rw [if_neg (show ¬ ((rg R 0).kind ≠ 1) from fun h => h hk), show ((R.getD 0 dVal).kind != 1) = false by rw [bne_eq_false_iff_eq]; exact hk]; rfl
  ·rw [if_pos (show (rg R 0).kind ≠ 1 from hk), show ((R.getD 0 dVal).kind != 1) = true by rw [bne_iff_ne]; exact hk]; rfl
 ·simp [h0]
end Go.Y
namespace Go.Y
open Go.RowKit Go.V Go.X Go.Proofs
structure MOk (s : MS) : Prop where
 rl : s.R.length = 11
 ru : ∀ v ∈ s.R, U64 v.n
 bl : s.B.length = 512
 bb : ByteL s.B
 sl : s.S.length = 512
theorem MOk.rg {s : MS} (h : MOk s) (r : Int) : U64 (rg s.R r).n := by
 show U64 (s.R.getD r.toNat dVal).n
 rw [List.getD_eq_getElem?_getD]
 cases hk : s.R[r.toNat]? with
 | none => exact ⟨by decide, by decide⟩
 | some x => exact h.ru x (List.mem_of_getElem? hk)
theorem MOk.secV {s : MS} (h : MOk s) (i : Ins) : U64 (secV i s.R).n := by
 unfold Go.Y.secV
 split
 ·exact wu64 _
 ·exact h.rg _
theorem MOk.setR {s : MS} (h : MOk s) (d : Int) {v : Val} (hv : U64 v.n) : MOk { s with R := s.R.set d.toNat v } := by
 refine ⟨by simp [h.rl], fun x hx => ?_, h.bl, h.bb, h.sl⟩
 rcases List.mem_or_eq_of_mem_set hx with hx | hx
 ·exact h.ru x hx
 ·subst hx; exact hv
theorem setS_len : ∀ (m : Nat) (S : List Bool) (p : Nat), (setS S p m).length = S.length
 | 0, S, p => rfl
 | m + 1, S, p => by rw [setS, setS_len m]; simp
theorem be_u64 {b : List Int} (h : ByteL b) {m : Nat} (hm : m <= 8) (p : Nat) : U64 (beF b p m) := by
 obtain ⟨h1, h2⟩ := beF_rng h m p
 have h8 : (256 : Int) ^ m <= 256 ^ 8 := by
  have h := Nat.pow_le_pow_right (n := 256) (by decide) hm
  have e1 : ((256 ^ m : Nat) : Int) = (256 : Int) ^ m := by rw [Int.natCast_pow]; rfl
  have e2 : ((256 ^ 8 : Nat) : Int) = (256 : Int) ^ 8 := by rw [Int.natCast_pow]; rfl
  rw [<- e1, <- e2]; exact Int.ofNat_le.2 h
 have e8 : (256 : Int) ^ 8 = 18446744073709551616 := by decide
 exact ⟨h1, by omega⟩
def stP1 (i : Ins) (P : List Int) (s : MS) : Int × MS :=
 if i.Op = 12 then mvP i s else if i.Op = 13 then ngP i s else if i.Op = 14 then ldP i P s else if i.Op = 15 then ptP i s else if i.Op = 16 then (0, s) else if i.Op = 28 then (exE s.R, s) else if i.Op < 12 then rkP i s else (brE i s.R, s)
def jmpP (i : Ins) (R : List Val) : Int := if i.Op = 16 then i.Off else if 17 <= i.Op /\ i.Op <= 27 then (if brJ i R = true then i.Off else 0) else 0
structure ROk (i : Ins) : Prop where
 op : 1 <= i.Op /\ i.Op <= 28
 off : -32768 <= i.Off /\ i.Off <= 32767
 dst : i.Op ≠ 16 -> i.Op ≠ 28 -> 0 <= i.Dst /\ i.Dst <= 10
 src : i.Op ≠ 13 -> i.Op ≠ 16 -> i.Op ≠ 28 -> i.UseImm = false -> 0 <= i.Src /\ i.Src <= 10
 sz : i.Op = 14 \/ i.Op = 15 -> sizedP i.Size = true
 ni : i.Op = 14 -> i.UseImm = false
theorem rok {i : Ins} (h : rightP i = true) : ROk i := by
 have ho := right_off i h
 unfold rightP secondP farP regP at h
 refine ⟨⟨ho.2.2.1, ho.2.2.2⟩, ⟨ho.1, ho.2.1⟩, ?_, ?_, ?_, ?_⟩ <;> grind
theorem st_ok {i : Ins} (hi : ROk i) {P : List Int} (hP : ByteL P) {s : MS} (h : MOk s) : MOk (stP1 i P s).2 := by
 have h0 : U64 0 := ⟨by decide, by decide⟩
 unfold stP1
 split
 ·unfold mvP
  split
  ·exact h
  ·split
   ·exact h
   ·exact h.setR _ (by simp only; split; exact wu64 _; exact h.secV i)
 split
 ·unfold ngP
  split
  ·exact h
  ·split
   ·exact h
   ·exact h.setR _ (aluP_rng (h.rg _) h0)
 split
 ·rename_i h14
  have hz := sized_cases (hi.sz (.inl h14))
  unfold ldP
  split
  ·exact h
  split
  ·exact h
  split
  ·split
   ·exact h
   ·refine h.setR _ ?_
    unfold getP
    split
    ·exact be_u64 hP (by omega) _
    ·exact h0
  split
  ·exact h
  split
  ·exact h
  ·exact h.setR _ (be_u64 h.bb (by omega) _)
 split
 ·unfold ptP
  split
  ·exact h
  split
  ·exact h
  split
  ·exact h
  split
  ·exact h
  ·exact ⟨h.rl, h.ru, by simp only; rw [setF_len]; exact h.bl, setF_bytes _ _ h.bb, by simp only; rw [setS_len]; exact h.sl⟩
 split
 ·exact h
 split
 ·exact h
 split
 ·unfold rkP
  split
  ·exact h
  split
  ·exact h
  split
  ·exact h.setR _ (aluP_rng (h.rg _) (h.secV i))
  ·exact h
 ·exact h
theorem next_at {l : List Ins} (hl : Okay l) {k : Nat} (hk : k < l.length) (h28 : (l.getD k dIns).Op ≠ 28) (R : List Val) : (k : Int) < (k : Int) + 1 + jmpP (l.getD k dIns) R /\ (k : Int) + 1 + jmpP (l.getD k dIns) R < l.length := by
 have hf := hl.fwd k hk
 have hr := c1_right (hl.z1 k hk)
 have ho := right_off _ hr
 have hlen := hl.len
 unfold nextP at hf
 rw [if_pos (by omega)] at hf
 simp only [Int.toNat_natCast] at hf
 generalize l.getD k dIns = i at *
 rw [if_pos ⟨hr, h28⟩, wrap64 (x := (k : Int) + 1) (by omega), wrap64 (by omega)] at hf
 unfold behindP at hf
 unfold jmpP
 by_cases h16 : i.Op = 16
 ·rw [if_pos h16] at hf ⊢
  exact hf _ (by simp)
 ·rw [if_neg h16] at hf ⊢
  by_cases hb : 17 <= i.Op /\ i.Op <= 27
  ·rw [if_pos hb] at hf ⊢
   have hto : (k : Int) < (k : Int) + 1 + i.Off /\ (k : Int) + 1 + i.Off < l.length := by
    split at hf
    ·exact hf _ (by simp)
    ·split at hf
     ·exact hf _ (by simp)
     ·have := hf ((k : Int) + 1) (by simp); omega
   have hnx : (k : Int) < (k : Int) + 1 /\ (k : Int) + 1 < l.length := by
    split at hf
    ·exact hf _ (by simp)
    ·split at hf
     ·exact hf _ (by simp)
     ·exact hf _ (by simp)
   split
   ·exact hto
   ·rw [Int.add_zero]; exact hnx
  ·rw [if_neg hb] at hf ⊢
   rw [Int.add_zero]
   exact hf _ (by simp)
section
variable (l : List Ins) (P : List Int)
theorem does1 {x : Int} (h : x = 12) : qci BIG x = some ((), (((), ()), ())) := by rw [qci_eq, if_pos h]
theorem does2 {x : Int} (h : x = 13) : qcj BIG x = some ((), (((), ()), ())) := by subst h; rw [qcj_eq]; rfl
theorem does3 {x : Int} (h : x = 14) : qck BIG x = some ((), (((), ()), ())) := by subst h; rw [qck_eq]; rfl
theorem does4 {x : Int} (h : x = 15) : qcl BIG x = some ((), (((), ()), ())) := by subst h; rw [qcl_eq]; rfl
theorem does5 {x : Int} (h : x = 16) : qcm BIG x = some ((), (((), ()), ())) := by subst h; rw [qcm_eq]; rfl
theorem does6 {x : Int} (h : x = 28) : qcn BIG x = some ((), (((), ()), ())) := by subst h; rw [qcn_eq]; rfl
theorem does7 {x : Int} (h : x < 12) : qco BIG x = some ((), (((), ()), ())) := by
 rw [qco_eq, if_neg (by omega), if_neg (by omega), if_neg (by omega), if_neg (by omega), if_neg (by omega), if_neg (by omega), forkB_if, if_pos (by simpa using h)]
theorem does8 {x : Int} (h : 17 <= x /\ x <= 27) : qcp BIG x = some ((), (((), ()), ())) := by
 rw [qcp_eq, if_neg (by omega), if_neg (by omega), if_neg (by omega), if_neg (by omega), if_neg (by omega), if_neg (by omega), forkB_if, if_neg (by simp; omega)]
theorem round_p (hl : Okay l) (hP : ByteL P) (hPl : P.length <= 65535) {k : Nat} (hk : k < l.length) {s : MS} (hs : MOk s) (st : Int) (hst : 0 <= st /\ st <= 1000000) (n : Nat) :
  qn_L0 (n + 1 + 1) l 0 0 0 st s.R s.B s.S P (k : Int) =
   if (stP1 (l.getD k dIns) P s).1 ≠ 0 then some ⟨(stP1 (l.getD k dIns) P s).1, (k : Int), 0, st + 1⟩
   else if (l.getD k dIns).Op = 28 then some ⟨0, 0, (rg s.R 0).n, st + 1⟩
   else qn_L0 (n + 1) l 0 0 0 (st + 1) (stP1 (l.getD k dIns) P s).2.R (stP1 (l.getD k dIns) P s).2.B (stP1 (l.getD k dIns) P s).2.S P ((k : Int) + 1 + jmpP (l.getD k dIns) s.R) := by
 have hlen := hl.len
 have hi := rok (c1_right (hl.z1 k hk))
 have hnx : (l.getD k dIns).Op ≠ 28 -> _ := fun h28 => next_at hl hk h28 s.R
 rw [qn_L0_eq, if_pos (by omega)]
 simp only [Int.toNat_natCast]
 rw [wrap64 (x := (k : Int) + 1) (by omega), wrap64 (x := st + 1) (by omega)]
 obtain ⟨i, hi0⟩ : ∃ i, l.getD k dIns = i := ⟨_, rfl⟩
 simp only [hi0] at hi hnx ⊢
 obtain ⟨R, B, S⟩ := s
 dsimp only at hnx ⊢
 have cont : ∀ (e : Int) (s' : MS) (pc : Int), forkB (e != 0) (some (⟨e, (k : Int), 0, st + 1⟩ : X.Outcome)) (qn_L0 (n + 1) l 0 0 0 (st + 1) s'.R s'.B s'.S P pc) = if e ≠ 0 then some ⟨e, (k : Int), 0, st + 1⟩ else qn_L0 (n + 1) l 0 0 0 (st + 1) s'.R s'.B s'.S P pc := by
  intro e s' pc
  rw [forkB_if]
  by_cases h : e = 0
  ·rw [if_neg (by simpa using h), if_neg (by simpa using h)]
  ·rw [if_pos (by simpa using h), if_pos h]
 have fin : ∀ (e : Int) (s' : MS) (pc : Int), i.Op ≠ 28 -> stP1 i P ⟨R, B, S⟩ = (e, s') -> (e = 0 -> pc = (k : Int) + 1 + jmpP i R) ->
   forkB (e != 0) (some (⟨e, (k : Int), 0, st + 1⟩ : X.Outcome)) (qn_L0 (n + 1) l 0 0 0 (st + 1) s'.R s'.B s'.S P pc) =
   if (stP1 i P ⟨R, B, S⟩).1 ≠ 0 then some ⟨(stP1 i P ⟨R, B, S⟩).1, (k : Int), 0, st + 1⟩
   else if i.Op = 28 then some ⟨0, 0, (rg R 0).n, st + 1⟩
   else qn_L0 (n + 1) l 0 0 0 (st + 1) (stP1 i P ⟨R, B, S⟩).2.R (stP1 i P ⟨R, B, S⟩).2.B (stP1 i P ⟨R, B, S⟩).2.S P ((k : Int) + 1 + jmpP i R) := by
  intro e s' pc h28 hst' hpc
  rw [cont, hst', if_neg h28]
  by_cases h : e = 0
  ·rw [if_neg (fun hh => hh h), if_neg (fun hh => hh h), hpc h]
  ·rw [if_pos h, if_pos h]
 by_cases h12 : i.Op = 12
 ·rw [forkB_if, if_pos (by simp [h12]), does1 h12, obind_of, move_p R B S P _ (hi.dst (by omega) (by omega)) (hi.src (by omega) (by omega) (by omega))]
  exact fin _ _ ((k : Int) + 1) (by omega) (by unfold stP1; rw [if_pos h12]) fun _ => by unfold jmpP; rw [if_neg (by omega), if_neg (by omega)]; omega
 rw [forkB_if, if_neg (by simp [h12])]
 by_cases h13 : i.Op = 13
 ·rw [forkB_if, if_pos (by simp [h13]), does2 h13, obind_of, turn_p R B S P _ (hi.dst (by omega) (by omega))]
  exact fin _ _ ((k : Int) + 1) (by omega) (by unfold stP1; rw [if_neg h12, if_pos h13]) fun _ => by unfold jmpP; rw [if_neg (by omega), if_neg (by omega)]; omega
 rw [forkB_if, if_neg (by simp [h13])]
 by_cases h14 : i.Op = 14
 ·rw [forkB_if, if_pos (by simp [h14]), does3 h14, obind_of, load_p R B S P _ (hi.dst (by omega) (by omega)) (hi.src (by omega) (by omega) (by omega) (hi.ni h14)) (hi.sz (.inl h14)) hs.bb hs.bl hP hPl]
  exact fin _ _ ((k : Int) + 1) (by omega) (by unfold stP1; rw [if_neg h12, if_neg h13, if_pos h14]) fun _ => by unfold jmpP; rw [if_neg (by omega), if_neg (by omega)]; omega
 rw [forkB_if, if_neg (by simp [h14])]
 by_cases h15 : i.Op = 15
 ·rw [forkB_if, if_pos (by simp [h15]), does4 h15, obind_of, put_p R B S P _ (hi.dst (by omega) (by omega)) (hi.src (by omega) (by omega) (by omega)) (hi.sz (.inr h15))]
  exact fin _ _ ((k : Int) + 1) (by omega) (by unfold stP1; rw [if_neg h12, if_neg h13, if_neg h14, if_pos h15]) fun _ => by unfold jmpP; rw [if_neg (by omega), if_neg (by omega)]; omega
 rw [forkB_if, if_neg (by simp [h15])]
 have ho := hi.off
 by_cases h16 : i.Op = 16
 ·rw [forkB_if, if_pos (by simp [h16]), does5 h16, obind_of, qdz_eq, obind_of]
  exact fin 0 ⟨R, B, S⟩ (IntKind.i64.wrap ((k : Int) + 1 + i.Off)) (by omega) (by unfold stP1; rw [if_neg h12, if_neg h13, if_neg h14, if_neg h15, if_pos h16]) fun _ => by unfold jmpP; rw [if_pos h16, wrap64 (by omega)]
 rw [forkB_if, if_neg (by simp [h16])]
 by_cases h28 : i.Op = 28
 ·rw [forkB_if, if_pos (by simp [h28]), does6 h28, obind_of]
  have hst' : stP1 i P ⟨R, B, S⟩ = (exE R, ⟨R, B, S⟩) := by unfold stP1; rw [if_neg h12, if_neg h13, if_neg h14, if_neg h15, if_neg h16, if_pos h28]
  have h00 : 0 <= (0 : Int) /\ (0 : Int) <= 10 := by decide
  have hcc : ((ask1 R 0 != 0) || ((R.getD 0 dVal).kind != 1)) = decide (exE R ≠ 0) := by
   have := exitC_p R B S P ((k : Int) + 1)
   rw [asks1_p R B S P ((k : Int) + 1) h00] at this
   exact this
  rw [asks1_p R B S P ((k : Int) + 1) h00]
  dsimp only
  rw [hcc, forkB_if, hst', if_pos h28]
  by_cases he : exE R = 0
  ·rw [if_neg (by simpa using he), exit2_p R B S P _ i he, obind_of, forkB_if, if_neg (show ¬ ((0 : Int) != 0) = true by decide), qn_L0a_eq, if_neg (fun h => h he)]; rfl
  ·rw [if_pos (by simpa using he), exit1_p R B S P _ i he]
   show forkB (exE R != 0) (some (⟨exE R, (k : Int), 0, st + 1⟩ : X.Outcome)) (qn_L0 (n + 1) l 0 0 0 (st + 1) R B S P ((k : Int) + 1)) = _
   rw [cont (exE R) ⟨R, B, S⟩ ((k : Int) + 1), if_pos he, if_pos he]
 rw [forkB_if, if_neg (by simp [h28])]
 by_cases hlt : i.Op < 12
 ·rw [forkB_if, if_pos (by simp [h12, h13, h14, h15, h16, h28, hlt]), does7 hlt, obind_of, reckon_p R B S P _ (hi.dst (by omega) (by omega)) (hi.src (by omega) (by omega) (by omega)) (hs.secV i)]
  exact fin _ _ ((k : Int) + 1) (by omega) (by unfold stP1; rw [if_neg h12, if_neg h13, if_neg h14, if_neg h15, if_neg h16, if_neg h28, if_pos hlt]) fun _ => by unfold jmpP; rw [if_neg (by omega), if_neg (by omega)]; omega
 ·have hop := hi.op
  rw [forkB_if, if_neg (by simp [hlt]), does8 (by omega), obind_of, branch_p R B S P _ (hi.dst (by omega) (by omega)) (hi.src (by omega) (by omega) (by omega))]
  exact fin (brE i R) ⟨R, B, S⟩ (if brJ i R = true then IntKind.i64.wrap ((k : Int) + 1 + i.Off) else (k : Int) + 1) (by omega) (by unfold stP1; rw [if_neg h12, if_neg h13, if_neg h14, if_neg h15, if_neg h16, if_neg h28, if_neg hlt]) fun _ => by
   unfold jmpP; rw [if_neg h16, if_pos (show 17 <= i.Op /\ i.Op <= 27 by omega)]
   split
   ·rw [wrap64 (by omega)]
   ·omega
def runP : Nat -> Nat -> MS -> Int -> X.Outcome
 | 0, _, _, st => ⟨0, 0, 0, st⟩
 | f + 1, k, s, st =>
  if (stP1 (l.getD k dIns) P s).1 ≠ 0 then ⟨(stP1 (l.getD k dIns) P s).1, (k : Int), 0, st + 1⟩
  else if (l.getD k dIns).Op = 28 then ⟨0, 0, (rg s.R 0).n, st + 1⟩
  else runP f ((k : Int) + 1 + jmpP (l.getD k dIns) s.R).toNat (stP1 (l.getD k dIns) P s).2 (st + 1)
theorem run_L0 (hl : Okay l) (hP : ByteL P) (hPl : P.length <= 65535) : ∀ (f k n : Nat) (s : MS) (st : Int), k < l.length -> l.length <= k + f -> MOk s -> 0 <= st -> st + f <= 1000000 -> f + 1 <= n ->
  qn_L0 n l 0 0 0 st s.R s.B s.S P (k : Int) = some (runP l P f k s st)
 | 0, k, n, s, st, hk, hf, _, _, _, _ => by omega
 | f + 1, k, n, s, st, hk, hf, hs, h0, h1, hn => by
  obtain ⟨n, rfl⟩ : ∃ n', n = n' + 1 + 1 := ⟨n - 2, by omega⟩
  rw [round_p l P hl hP hPl hk hs st (by omega) n, runP]
  by_cases he : (stP1 (l.getD k dIns) P s).1 = 0
  ·have hne : ¬ (stP1 (l.getD k dIns) P s).1 ≠ 0 := fun h => h he
   rw [if_neg hne, if_neg hne]
   by_cases h28 : (l.getD k dIns).Op = 28
   ·rw [if_pos h28, if_pos h28]
   ·rw [if_neg h28, if_neg h28]
    have hnx := next_at hl hk h28 s.R
    have := run_L0 hl hP hPl f ((k : Int) + 1 + jmpP (l.getD k dIns) s.R).toNat (n + 1) (stP1 (l.getD k dIns) P s).2 (st + 1) (by omega) (by omega) (st_ok (rok (c1_right (hl.z1 k hk))) hP hs) (by omega) (by omega) (by omega)
    rw [show ((((k : Int) + 1 + jmpP (l.getD k dIns) s.R).toNat : Nat) : Int) = (k : Int) + 1 + jmpP (l.getD k dIns) s.R by omega] at this
    exact this
  ·rw [if_pos he, if_pos he]
def ms0 : MS := ⟨[⟨0, 0⟩, ⟨2, 0⟩, ⟨1, (P.length : Int)⟩, ⟨0, 0⟩, ⟨0, 0⟩, ⟨0, 0⟩, ⟨0, 0⟩, ⟨0, 0⟩, ⟨0, 0⟩, ⟨0, 0⟩, ⟨3, 0⟩], List.replicate 512 0, List.replicate 512 false⟩
theorem ms0_ok (hPl : P.length <= 65535) : MOk (ms0 P) := by
 refine ⟨rfl, fun v hv => ?_, List.length_replicate, fun x hx => ?_, List.length_replicate⟩
 ·have hv : v ∈ [(⟨0, 0⟩ : Val), ⟨2, 0⟩, ⟨1, (P.length : Int)⟩, ⟨0, 0⟩, ⟨0, 0⟩, ⟨0, 0⟩, ⟨0, 0⟩, ⟨0, 0⟩, ⟨0, 0⟩, ⟨0, 0⟩, ⟨3, 0⟩] := hv
  simp only [List.mem_cons, List.not_mem_nil, or_false] at hv
  unfold U64
  rcases hv with h | h | h | h | h | h | h | h | h | h | h <;> subst h <;> simp <;> omega
 ·obtain rfl := (List.mem_replicate.1 hx).2
  exact ⟨by decide, by decide⟩
def runAll : X.Outcome := if (checkP l).Err ≠ 0 then ⟨(checkP l).Err, (checkP l).At, 0, 0⟩ else if P.length > 65535 then ⟨3, 0, 0, 0⟩ else runP l P l.length 0 (ms0 P) 0
theorem run_p (hP : ByteL P) : qn BIG l P = some (runAll l P) := by
 rw [qn_eq, check_p, obind_of, forkB_if, forkB_if]
 unfold runAll
 by_cases he : (checkP l).Err = 0
 ·rw [if_neg (by simpa using he), if_neg (show ¬ (checkP l).Err ≠ 0 from fun h => h he)]
  by_cases hp : P.length > 65535
  ·rw [if_pos (by simp; omega), if_pos hp]
  ·rw [if_neg (by simp; omega), if_neg hp]
   have hl := okay_of he
   have hlen := hl.len
   have hpos := hl.pos
   have e : IntKind.u64.wrap ((P.length : Nat) : Int) = (P.length : Int) := wrapU64 ⟨by omega, by omega⟩
   rw [e]
   exact run_L0 l P hl hP (by omega) l.length 0 BIG (ms0 P) 0 (by omega) (by omega) (ms0_ok P (by omega)) (by omega) (by omega) (by show l.length + 1 <= 1000000000; omega)
 ·rw [if_pos (by simpa using he), if_pos he]
end
end Go.Y
