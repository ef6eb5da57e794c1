/- What a function computes, as a tree of tests and calls; values that come of two integers; structs held against each other; maps whose keys are written out. Nothing here is about one program. -/
import Derived.Test.YthlhbjahlanneaaGreatAn
namespace Go.V
open Go.RowKit

/-! ### Integers of a kind -/
abbrev IU8 (x : Int) : Prop := 0 ≤ x ∧ x ≤ 255
abbrev IU16 (x : Int) : Prop := 0 ≤ x ∧ x ≤ 65535
abbrev IU32 (x : Int) : Prop := 0 ≤ x ∧ x ≤ 4294967295
abbrev IU64 (x : Int) : Prop := 0 ≤ x ∧ x ≤ 18446744073709551615
abbrev II8 (x : Int) : Prop := -128 ≤ x ∧ x ≤ 127
abbrev II16 (x : Int) : Prop := -32768 ≤ x ∧ x ≤ 32767
abbrev II32 (x : Int) : Prop := -2147483648 ≤ x ∧ x ≤ 2147483647
abbrev II64 (x : Int) : Prop := -9223372036854775808 ≤ x ∧ x ≤ 9223372036854775807

/-! ### A tree of tests -/
def letF {α β : Type} (a : α) (f : α → β) : β := f a
def optF {α β : Type} (o : Option α) (n : β) (f : α → β) : β := match o with | some x => f x | none => n
@[simp] theorem letF_def {α β : Type} (a : α) (f : α → β) : letF a f = f a := rfl
@[simp] theorem optF_none {α β : Type} (n : β) (f : α → β) : optF none n f = n := rfl
@[simp] theorem optF_some {α β : Type} (a : α) (n : β) (f : α → β) : optF (some a) n f = f a := rfl
/-! ### Calls that tell, or panic -/
def RetP (w : World) (pv : Value) : Option Value → Ending → World → Prop
  | some v => RetV w v
  | none => Pan w pv
section
variable {P : Program} {w w' : World} {α : Type} {f : FuncId} {args : Array Value}
end

/-! ### What is made of two integers -/
def bAnd (k : IntKind) (x y : Int) : Int := k.wrap ((BitVec.ofInt k.bits x &&& BitVec.ofInt k.bits y).toNat : Int)
def bOr (k : IntKind) (x y : Int) : Int := k.wrap ((BitVec.ofInt k.bits x ||| BitVec.ofInt k.bits y).toNat : Int)
def bXor (k : IntKind) (x y : Int) : Int := k.wrap ((BitVec.ofInt k.bits x ^^^ BitVec.ofInt k.bits y).toNat : Int)
def bAndNot (k : IntKind) (x y : Int) : Int := k.wrap ((BitVec.ofInt k.bits x &&& ~~~BitVec.ofInt k.bits y).toNat : Int)
def bNot (k : IntKind) (x : Int) : Int := k.wrap ((~~~BitVec.ofInt k.bits x).toNat : Int)
def sShl (k : IntKind) (x y : Int) : Int := k.wrap (x * 2 ^ (min y.toNat k.bits))
def sShr (k : IntKind) (x y : Int) : Int := x.fdiv (2 ^ (min y.toNat k.bits))
def gMin (x y : Int) : Int := if y < x then y else x
def gMax (x y : Int) : Int := if y > x then y else x
section
variable {P : Program} {ops : Array Oper} {k n : Nat} {F : PF} {dst : Option Tmp}
end

/-! ### Structs held against each other -/
section
variable {P : Program}
def partV (P : Program) (t : TypeId) (cs : Array Value) (off : Nat) : Option Value :=
  match P.underlying t with
  | some d => (match aggD d with | true => (match P.info? t with | some i => some (.agg (cs.extract off (off + i.size))) | none => none) | false => cs[off]?)
  | none => none
theorem partV_run {t : TypeId} {cs : Array Value} {off : Nat} {v : Value} (h : partV P t cs off = some v) (w : World) : (part t cs off).run P w = .ok v w := by
  unfold partV at h
  split at h
  · rename_i d hd
    unfold part
    rw [Sem.run_bind, run_isAgg_of hd]
    split at h
    · rename_i ha
      rw [ha]
      split at h
      · rename_i i hi
        simp only [Option.some.injEq] at h
        subst h
        simp [sizeOf, typeInfo, hi]
      · cases h
    · rename_i ha
      rw [ha]
      simp [h]
  · cases h
def eqFs (P : Program) (rec : TypeId → Value → Value → Option Bool) (xs ys : Array Value) : List Field → Option Bool
  | [] => some true
  | [f] => match f.name == "_" with | true => some true | false => (match partV P f.type xs f.offset, partV P f.type ys f.offset with | some a, some b => rec f.type a b | _, _ => none)
  | f :: g :: r => match f.name == "_" with | true => eqFs P rec xs ys (g :: r) | false => (match partV P f.type xs f.offset, partV P f.type ys f.offset with | some a, some b => (match rec f.type a b, eqFs P rec xs ys (g :: r) with | some p, some q => some (p && q) | _, _ => none) | _, _ => none)
def eqB (P : Program) : Nat → TypeId → Value → Value → Option Bool
  | 0, _, _, _ => none
  | d + 1, t, x, y =>
    match P.underlying t, x, y with
    | some .bool, .bool a, .bool b => some (a == b)
    | some (.int _), .int j a, .int j' b => match decide (j = j') with | true => some (a == b) | false => none
    | some .string, .string a, .string b => some (a == b)
    | some (.struct fs), .agg xs, .agg ys => match P.stoodInHeld t with | true => none | false => eqFs P (eqB P d) xs ys fs.toList
    | _, _, _ => none
def eqBody (d : Nat) (xs ys : Array Value) (f : Field) : Sem (ForInStep (Option Bool × Unit)) :=
  if f.name ≠ "_" then do
    let a ← part f.type xs f.offset
    let b ← part f.type ys f.offset
    let r ← Op.equalIn d f.type a b
    if (!r) = true then pure (ForInStep.done (some false, ())) else pure (ForInStep.yield (none, ()))
  else pure (ForInStep.yield (none, ()))
theorem eqFs_run {xs ys : Array Value} {d : Nat} (hrec : ∀ (t : TypeId) (x y : Value) (b : Bool), eqB P d t x y = some b → ∀ w : World, (Op.equalIn d t x y).run P w = .ok b w) :
    ∀ (fs : List Field) (b : Bool), eqFs P (eqB P d) xs ys fs = some b → ∀ w : World,
    (forIn (m := Sem) fs ((none, ()) : Option Bool × Unit) (fun f _ => eqBody d xs ys f)).run P w = .ok (if b then (none, ()) else (some false, ())) w
  | [], b, h, w => by
    simp only [eqFs, Option.some.injEq] at h
    subst h; rfl
  | f :: r, b, h, w => by
    have one : ∀ (c : Bool), f.name ≠ "_" → (match partV P f.type xs f.offset, partV P f.type ys f.offset with | some a, some b => eqB P d f.type a b | _, _ => none) = some c →
        (eqBody d xs ys f).run P w = .ok (if c then ForInStep.yield (none, ()) else ForInStep.done (some false, ())) w := by
      intro c hn hc
      split at hc
      · rename_i x y hx hy
        unfold eqBody
        rw [if_pos hn, Sem.run_bind, partV_run hx]
        simp only [Result.andThen_ok]
        rw [Sem.run_bind, partV_run hy]
        simp only [Result.andThen_ok]
        rw [Sem.run_bind, hrec _ _ _ _ hc]
        cases c <;> rfl
      · cases hc
    have skip : f.name = "_" → (eqBody d xs ys f).run P w = .ok (ForInStep.yield (none, ())) w := by
      intro hn
      unfold eqBody
      rw [if_neg (by simpa using hn)]; rfl
    rw [List.forIn_cons]
    match r, h with
    | [], h =>
      unfold eqFs at h
      split at h
      · rename_i hn
        simp only [Option.some.injEq] at h
        subst h
        rw [Sem.run_bind, skip (by simpa using hn)]; rfl
      · rename_i hn
        rw [Sem.run_bind, one b (by simpa using hn) h]
        cases b <;> rfl
    | g :: r, h =>
      unfold eqFs at h
      split at h
      · rename_i hn
        rw [Sem.run_bind, skip (by simpa using hn)]
        exact eqFs_run hrec (g :: r) b h w
      · rename_i hn
        have hn' : f.name ≠ "_" := by simpa using hn
        split at h
        · rename_i x y hx hy
          split at h
          · rename_i p q hp hq
            simp only [Option.some.injEq] at h
            subst h
            rw [Sem.run_bind, one p hn' (by rw [hx, hy]; exact hp)]
            cases p
            · rfl
            · exact eqFs_run hrec (g :: r) q hq w
          · cases h
        · cases h
theorem eqB_run : ∀ (d : Nat) (t : TypeId) (x y : Value) (b : Bool), eqB P d t x y = some b → ∀ w : World, (Op.equalIn d t x y).run P w = .ok b w
  | 0, _, _, _, _, h, _ => by simp [eqB] at h
  | d + 1, t, x, y, b, h, w => by
    unfold eqB at h
    unfold Op.equalIn
    split at h
    · rename_i a c ht
      simp only [Option.some.injEq] at h
      subst h
      simp [underlying, ht]
    · rename_i kk j a j' c ht
      split at h
      · rename_i hj
        simp only [Option.some.injEq] at h
        subst h
        have : j = j' := by simpa using hj
        subst this
        simp [underlying, ht]
      · cases h
    · rename_i a c ht
      simp only [Option.some.injEq] at h
      subst h
      simp [underlying, ht]
    · rename_i fs xs ys ht
      split at h
      · cases h
      · rename_i hst
        have hu : (underlying t).run P w = .ok (.struct fs) w := by simp [underlying, ht]
        rw [Sem.run_bind, hu]
        simp only [Result.andThen_ok]
        have hp : (program).run P w = .ok P w := rfl
        rw [Sem.run_bind, hp]
        simp only [Result.andThen_ok, hst]
        have key := eqFs_run (P := P) (d := d) (xs := xs) (ys := ys) (eqB_run d) fs.toList b h w
        rw [← Array.forIn_toList]
        simp only [Bool.false_eq_true, if_false]
        rw [Sem.run_bind]
        unfold eqBody at key
        rw [key]
        cases b <;> rfl
    · cases h
def decBinT (ops : Array Oper) (k n : Nat) (F : PF) : Option (Option Tmp × BinOp × TypeId × Value × Value) :=
  match dec ops k n F with | some ⟨dst, .binOp b t x y _, _, _, _, _⟩ => some (dst, b, t, evD F x, evD F y) | _ => none
end
end Go.V
