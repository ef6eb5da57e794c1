/- What a function computes, as a tree of tests and calls; values that come of two integers; structs held against each other; maps whose keys are written out. Nothing here is about one program. -/
import Derived.Test.YtbklhipicfimeaaAn
namespace Go.V
open Go.RowKit

/-! ### Integers of a kind -/
abbrev IU8 (x : Int) : Prop := 0 ≤ x ∧ x ≤ 255
abbrev IU16 (x : Int) : Prop := 0 ≤ x ∧ x ≤ 65535
abbrev IU32 (x : Int) : Prop := 0 ≤ x ∧ x ≤ 4294967295
abbrev IU64 (x : Int) : Prop := 0 ≤ x ∧ x ≤ 18446744073709551615
abbrev II8 (x : Int) : Prop := -128 ≤ x ∧ x ≤ 127
abbrev II16 (x : Int) : Prop := -32768 ≤ x ∧ x ≤ 32767
abbrev II32 (x : Int) : Prop := -2147483648 ≤ x ∧ x ≤ 2147483647
abbrev II64 (x : Int) : Prop := -9223372036854775808 ≤ x ∧ x ≤ 9223372036854775807

/-! ### A tree of tests -/
def letF {α β : Type} (a : α) (f : α → β) : β := f a
def optF {α β : Type} (o : Option α) (n : β) (f : α → β) : β := match o with | some x => f x | none => n
theorem ifT {α : Type} {b : Bool} {s x y : α} (h : b = true) (hs : s = if b = true then x else y) : s = x := by rw [hs, if_pos h]
theorem ifF {α : Type} {b : Bool} {s x y : α} (h : b = false) (hs : s = if b = true then x else y) : s = y := by rw [hs, if_neg (by simp [h])]
theorem letS {α β : Type} {a x : α} {f : α → β} {s : β} (h : a = x) (hs : s = letF a f) : s = f x := by rw [hs, letF, h]
theorem optN {α β : Type} {o : Option α} {f : α → β} {n s : β} (h : o = none) (hs : s = optF o n f) : s = n := by rw [hs, h]; rfl
theorem optS {α β : Type} {o : Option α} {x : α} {f : α → β} {n s : β} (h : o = some x) (hs : s = optF o n f) : s = f x := by rw [hs, h]; rfl
@[simp] theorem letF_def {α β : Type} (a : α) (f : α → β) : letF a f = f a := rfl
@[simp] theorem optF_none {α β : Type} (n : β) (f : α → β) : optF none n f = n := rfl
@[simp] theorem optF_some {α β : Type} (a : α) (n : β) (f : α → β) : optF (some a) n f = f a := rfl
theorem iteR {α : Type} {p : α → Prop} {b : Bool} {x y : α} (h1 : b = true → p x) (h2 : b = false → p y) : p (if b = true then x else y) := by
  cases b
  · simpa using h2 rfl
  · simpa using h1 rfl
theorem letR {α β : Type} {p : β → Prop} {a : α} {f : α → β} (h : ∀ x, a = x → p (f x)) : p (letF a f) := h a rfl
theorem optR {α β : Type} {p : β → Prop} {o : Option α} {n : β} {f : α → β} (h1 : o = none → p n) (h2 : ∀ x, o = some x → p (f x)) : p (optF o n f) := by
  cases ho : o with
  | none => exact h1 ho
  | some x => exact h2 x ho

/-! ### Calls that tell, or panic -/
def RetP (w : World) (pv : Value) : Option Value → Ending → World → Prop
  | some v => RetV w v
  | none => Pan w pv
section
variable {P : Program} {w w' : World} {α : Type} {f : FuncId} {args : Array Value}
theorem retE {g : α → Value} {a x : α} (hx : a = x) (h : Calls P f args w (RetV w (g a))) : Calls P f args w (RetV w (g x)) := hx ▸ h
theorem retP_ret {pv v : Value} {o : Option α} {g : α → Value} {x : α} (hs : o = some x) (hv : v = g x) (hC : Chg [] w w') : RetP w pv (o.map g) (.returned v) w' := by
  subst hs; exact ⟨hC, hv⟩
theorem retP_pan {pv : Value} {o : Option α} {g : α → Value} (hs : o = none) (hC : Chg [] w w') : RetP w pv (o.map g) (.panicked [{ v := pv, recovered := false }]) w' := by
  subst hs; exact ⟨rfl, hC⟩
theorem retP_yes {pv : Value} {o : Option α} {g : α → Value} {x : α} (hs : o = some x) (h : Calls P f args w (RetP w pv (o.map g))) : Calls P f args w (RetV w (g x)) := by
  subst hs; exact h
theorem retP_no {pv : Value} {o : Option α} {g : α → Value} (hs : o = none) (h : Calls P f args w (RetP w pv (o.map g))) : Calls P f args w (Pan w pv) := by
  subst hs; exact h
/-- Results that lie in cells. -/
theorem retC {n : Nat} {F : PF} {fn : Func} {R : Ending → World → Prop} (vs : List Value) (v : Value) (hv : tup vs = v) (h : ResLC P w F fn.results.toList vs) (hR : R (.returned v) w) : ∀ a, Fr n [] F a → bodyPost P fn R .ret a w :=
  fun _ ha => ⟨ha.defers, v, by rw [← hv]; exact resAC_run ha h, hR⟩
theorem endC {n : Nat} {F : PF} {fn : Func} {R : Ending → World → Prop} (vs : List Value) (v : Value) (hv : tup vs = v) (h : ResLC P w F fn.results.toList vs) (hR : R (.returned v) w) : ∀ a, Fr n [] F a → bodyPost P fn R .normal a w :=
  fun _ ha => ⟨ha.defers, v, by rw [← hv]; exact resAC_run ha h, hR⟩
/-- The same, where nothing was deferred on this way, though it may be on others. -/
theorem retCD {n : Nat} {F : PF} {fn : Func} {R : Ending → World → Prop} (vs : List Value) (v : Value) (hv : tup vs = v) (h : ResLC P w F fn.results.toList vs) (hR : R (.returned v) w) : ∀ a, Fr n [] F a → bodyPostD P fn R .ret a w := by
  intro a ha
  show Leaves P fn a.tmps R a.defers .returning w
  rw [ha.defers]
  exact ⟨v, by rw [← hv]; exact resAC_run ha h, hR⟩
theorem resCell {F : PF} {p : Tmp} {ty g o : Nat} {c : Array Value} {e : TypeId} {v : Value} (hb : Blk w g c e) (hp : F.get p = some (.pointer (some ⟨g, o, none⟩))) (hv : ldv P ty c o = some v) : ResC P w F (.cell p ty) v :=
  ⟨_, hp, run_loadVar_ldv hb hv⟩
end

/-! ### What is made of two integers -/
def bAnd (k : IntKind) (x y : Int) : Int := k.wrap ((BitVec.ofInt k.bits x &&& BitVec.ofInt k.bits y).toNat : Int)
def bOr (k : IntKind) (x y : Int) : Int := k.wrap ((BitVec.ofInt k.bits x ||| BitVec.ofInt k.bits y).toNat : Int)
def bXor (k : IntKind) (x y : Int) : Int := k.wrap ((BitVec.ofInt k.bits x ^^^ BitVec.ofInt k.bits y).toNat : Int)
def bAndNot (k : IntKind) (x y : Int) : Int := k.wrap ((BitVec.ofInt k.bits x &&& ~~~BitVec.ofInt k.bits y).toNat : Int)
def bNot (k : IntKind) (x : Int) : Int := k.wrap ((~~~BitVec.ofInt k.bits x).toNat : Int)
def sShl (k : IntKind) (x y : Int) : Int := k.wrap (x * 2 ^ (min y.toNat k.bits))
def sShr (k : IntKind) (x y : Int) : Int := x.fdiv (2 ^ (min y.toNat k.bits))
def gMin (x y : Int) : Int := if y < x then y else x
def gMax (x y : Int) : Int := if y > x then y else x
theorem gMin_rng {x y l m : Int} (hx : l ≤ x ∧ x ≤ m) (hy : l ≤ y ∧ y ≤ m) : l ≤ gMin x y ∧ gMin x y ≤ m := by unfold gMin; split <;> omega
theorem gMax_rng {x y l m : Int} (hx : l ≤ x ∧ x ≤ m) (hy : l ≤ y ∧ y ≤ m) : l ≤ gMax x y ∧ gMax x y ≤ m := by unfold gMax; split <;> omega
theorem gMin_eq (x y : Int) : gMin x y = min x y := by unfold gMin; omega
theorem gMax_eq (x y : Int) : gMax x y = max x y := by unfold gMax; omega

theorem wrapU8 (x : Int) : 0 ≤ IntKind.u8.wrap x ∧ IntKind.u8.wrap x ≤ 255 := by unfold IntKind.wrap; simp [IntKind.bits, IntKind.signed]; omega
theorem wrapU16 (x : Int) : 0 ≤ IntKind.u16.wrap x ∧ IntKind.u16.wrap x ≤ 65535 := by unfold IntKind.wrap; simp [IntKind.bits, IntKind.signed]; omega
theorem wrapU32 (x : Int) : 0 ≤ IntKind.u32.wrap x ∧ IntKind.u32.wrap x ≤ 4294967295 := by unfold IntKind.wrap; simp [IntKind.bits, IntKind.signed]; omega
theorem wrapU64 (x : Int) : 0 ≤ IntKind.u64.wrap x ∧ IntKind.u64.wrap x ≤ 18446744073709551615 := by unfold IntKind.wrap; simp [IntKind.bits, IntKind.signed]; omega
theorem wrapU64_eq (x : Int) : IntKind.u64.wrap x = x % 18446744073709551616 := by unfold IntKind.wrap; simp [IntKind.bits, IntKind.signed]
theorem wrapU32_eq (x : Int) : IntKind.u32.wrap x = x % 4294967296 := by unfold IntKind.wrap; simp [IntKind.bits, IntKind.signed]
theorem wrapU8_eq (x : Int) : IntKind.u8.wrap x = x % 256 := by unfold IntKind.wrap; simp [IntKind.bits, IntKind.signed]
theorem wrapU16_eq (x : Int) : IntKind.u16.wrap x = x % 65536 := by unfold IntKind.wrap; simp [IntKind.bits, IntKind.signed]
theorem wrapI64_eq (x : Int) : IntKind.i64.wrap x = if x % 18446744073709551616 ≥ 9223372036854775808 then x % 18446744073709551616 - 18446744073709551616 else x % 18446744073709551616 := by unfold IntKind.wrap; simp [IntKind.bits, IntKind.signed]
theorem wrapI32_eq (x : Int) : IntKind.i32.wrap x = if x % 4294967296 ≥ 2147483648 then x % 4294967296 - 4294967296 else x % 4294967296 := by unfold IntKind.wrap; simp [IntKind.bits, IntKind.signed]
theorem wrapI64 (x : Int) : -9223372036854775808 ≤ IntKind.i64.wrap x ∧ IntKind.i64.wrap x ≤ 9223372036854775807 := by rw [wrapI64_eq]; split <;> omega
theorem wrapI32 (x : Int) : -2147483648 ≤ IntKind.i32.wrap x ∧ IntKind.i32.wrap x ≤ 2147483647 := by rw [wrapI32_eq]; split <;> omega
theorem sShr_rng {k : IntKind} {x y m : Int} (h : 0 ≤ x ∧ x ≤ m) : 0 ≤ sShr k x y ∧ sShr k x y ≤ m := by
  unfold sShr
  have hp : (0 : Int) < 2 ^ (min y.toNat k.bits) := by exact Int.pow_pos (by omega)
  rw [Int.fdiv_eq_ediv_of_nonneg _ (by omega)]
  have h1 : 0 ≤ x / 2 ^ (min y.toNat k.bits) := Int.ediv_nonneg h.1 (by omega)
  have h2 : x / 2 ^ (min y.toNat k.bits) ≤ x := Int.ediv_le_self _ h.1
  omega
theorem tdiv_rng {x y m : Int} (h : 0 ≤ x ∧ x ≤ m) (hy : 0 ≤ y) : 0 ≤ x.tdiv y ∧ x.tdiv y ≤ m := by
  rw [Int.tdiv_eq_ediv_of_nonneg h.1]
  have h1 : 0 ≤ x / y := Int.ediv_nonneg h.1 hy
  have h2 : x / y ≤ x := Int.ediv_le_self _ h.1
  omega
theorem tmod_rng {x y m : Int} (h : 0 ≤ x ∧ x ≤ m) (hy : 0 ≤ y) : 0 ≤ x.tmod y ∧ x.tmod y ≤ m := by
  rw [Int.tmod_eq_emod_of_nonneg h.1]
  have h1 : x % y = x - y * (x / y) := Int.emod_def x y
  have h2 : 0 ≤ y * (x / y) := Int.mul_nonneg hy (Int.ediv_nonneg h.1 hy)
  by_cases h0 : y = 0
  · subst h0; simpa using h
  · have h3 := Int.emod_nonneg x h0
    omega
theorem tmod_lt {x y : Int} (h : 0 ≤ x) (hy : 0 < y) : x.tmod y < y := by
  rw [Int.tmod_eq_emod_of_nonneg h]; exact Int.emod_lt_of_pos x hy

section
variable {P : Program} {ops : Array Oper} {k n : Nat} {F : PF} {dst : Option Tmp}
theorem decBin_run {b : BinOp} {x y v : Value} (hd : decBin ops k n F = some (dst, b, x, y)) (hg : ∀ t x' y' w, (eqGuard b t x' y' x y).run P w = .ok () w) (hv : ∀ t w, (binOp b t x y).run P w = .ok v w) (w : World) :
    decRun P ops k n F w = some (dst, .ok (.value v) w) := by
  unfold decBin at hd
  split at hd
  · rename_i d b' xt x' y' yt ty pos af gd hdec
    simp only [Option.some.injEq, Prod.mk.injEq] at hd
    obtain ⟨rfl, rfl, rfl, rfl⟩ := hd
    unfold decRun
    rw [hdec]
    simp [execOp, hg, hv]
  · cases hd
theorem run_shl {kk k' : IntKind} {x y : Int} (hd : decBin ops k n F = some (dst, .shl, .int kk x, .int k' y)) (hy : 0 ≤ y) (w : World) : decRun P ops k n F w = some (dst, .ok (.value (.int kk (sShl kk x y))) w) :=
  decBin_run hd (fun _ _ _ _ => by simp [eqGuard]) (fun _ _ => by simp [binOp, Op.shift, show ¬ y < 0 by omega, sShl]) w
theorem run_shr {kk k' : IntKind} {x y : Int} (hd : decBin ops k n F = some (dst, .shr, .int kk x, .int k' y)) (hy : 0 ≤ y) (w : World) : decRun P ops k n F w = some (dst, .ok (.value (.int kk (sShr kk x y))) w) :=
  decBin_run hd (fun _ _ _ _ => by simp [eqGuard]) (fun _ _ => by simp [binOp, Op.shift, show ¬ y < 0 by omega, sShr]) w
theorem run_rem {kk : IntKind} {x y : Int} (hd : decBin ops k n F = some (dst, .rem, .int kk x, .int kk y)) (hy : y ≠ 0) (w : World) : decRun P ops k n F w = some (dst, .ok (.value (.int kk (x.tmod y))) w) :=
  decBin_run hd (fun _ _ _ _ => by simp [eqGuard]) (fun _ _ => by simp [binOp, Op.intDiv, hy]) w
theorem run_quo {kk : IntKind} {x y : Int} (hd : decBin ops k n F = some (dst, .quo, .int kk x, .int kk y)) (hy : y ≠ 0) (w : World) : decRun P ops k n F w = some (dst, .ok (.value (.int kk (kk.wrap (x.tdiv y)))) w) :=
  decBin_run hd (fun _ _ _ _ => by simp [eqGuard]) (fun _ _ => by simp [binOp, Op.intDiv, hy]) w
end

theorem WR.mergeW {P : Program} {ops : Array Oper} {Q : Exit → Act → World → Prop} {k n : Nat} {ds : List Deferred} {F : PF} {w : World} (k' : Nat) (F' : PF) (W : World → Prop) (h : ∀ Q', (∀ w', W w' → WR P ops Q' k' n ds F' w') → WR P ops Q' k n ds F w) (K : ∀ w', W w' → WR P ops Q k' n ds F' w') : WR P ops Q k n ds F w := h Q K

/-! ### Structs held against each other -/
section
variable {P : Program}
def partV (P : Program) (t : TypeId) (cs : Array Value) (off : Nat) : Option Value :=
  match P.underlying t with
  | some d => (match aggD d with | true => (match P.info? t with | some i => some (.agg (cs.extract off (off + i.size))) | none => none) | false => cs[off]?)
  | none => none
theorem partV_run {t : TypeId} {cs : Array Value} {off : Nat} {v : Value} (h : partV P t cs off = some v) (w : World) : (part t cs off).run P w = .ok v w := by
  unfold partV at h
  split at h
  · rename_i d hd
    unfold part
    rw [Sem.run_bind, run_isAgg_of hd]
    split at h
    · rename_i ha
      rw [ha]
      split at h
      · rename_i i hi
        simp only [Option.some.injEq] at h
        subst h
        simp [sizeOf, typeInfo, hi]
      · cases h
    · rename_i ha
      rw [ha]
      simp [h]
  · cases h
def eqFs (P : Program) (rec : TypeId → Value → Value → Option Bool) (xs ys : Array Value) : List Field → Option Bool
  | [] => some true
  | [f] => match f.name == "_" with | true => some true | false => (match partV P f.type xs f.offset, partV P f.type ys f.offset with | some a, some b => rec f.type a b | _, _ => none)
  | f :: g :: r => match f.name == "_" with | true => eqFs P rec xs ys (g :: r) | false => (match partV P f.type xs f.offset, partV P f.type ys f.offset with | some a, some b => (match rec f.type a b, eqFs P rec xs ys (g :: r) with | some p, some q => some (p && q) | _, _ => none) | _, _ => none)
def eqB (P : Program) : Nat → TypeId → Value → Value → Option Bool
  | 0, _, _, _ => none
  | d + 1, t, x, y =>
    match P.underlying t, x, y with
    | some .bool, .bool a, .bool b => some (a == b)
    | some (.int _), .int j a, .int j' b => match decide (j = j') with | true => some (a == b) | false => none
    | some .string, .string a, .string b => some (a == b)
    | some (.struct fs), .agg xs, .agg ys => match P.stoodInHeld t with | true => none | false => eqFs P (eqB P d) xs ys fs.toList
    | _, _, _ => none
def eqBody (d : Nat) (xs ys : Array Value) (f : Field) : Sem (ForInStep (Option Bool × Unit)) :=
  if f.name ≠ "_" then do
    let a ← part f.type xs f.offset
    let b ← part f.type ys f.offset
    let r ← Op.equalIn d f.type a b
    if (!r) = true then pure (ForInStep.done (some false, ())) else pure (ForInStep.yield (none, ()))
  else pure (ForInStep.yield (none, ()))
theorem eqFs_run {xs ys : Array Value} {d : Nat} (hrec : ∀ (t : TypeId) (x y : Value) (b : Bool), eqB P d t x y = some b → ∀ w : World, (Op.equalIn d t x y).run P w = .ok b w) :
    ∀ (fs : List Field) (b : Bool), eqFs P (eqB P d) xs ys fs = some b → ∀ w : World,
    (forIn (m := Sem) fs ((none, ()) : Option Bool × Unit) (fun f _ => eqBody d xs ys f)).run P w = .ok (if b then (none, ()) else (some false, ())) w
  | [], b, h, w => by
    simp only [eqFs, Option.some.injEq] at h
    subst h; rfl
  | f :: r, b, h, w => by
    have one : ∀ (c : Bool), f.name ≠ "_" → (match partV P f.type xs f.offset, partV P f.type ys f.offset with | some a, some b => eqB P d f.type a b | _, _ => none) = some c →
        (eqBody d xs ys f).run P w = .ok (if c then ForInStep.yield (none, ()) else ForInStep.done (some false, ())) w := by
      intro c hn hc
      split at hc
      · rename_i x y hx hy
        unfold eqBody
        rw [if_pos hn, Sem.run_bind, partV_run hx]
        simp only [Result.andThen_ok]
        rw [Sem.run_bind, partV_run hy]
        simp only [Result.andThen_ok]
        rw [Sem.run_bind, hrec _ _ _ _ hc]
        cases c <;> rfl
      · cases hc
    have skip : f.name = "_" → (eqBody d xs ys f).run P w = .ok (ForInStep.yield (none, ())) w := by
      intro hn
      unfold eqBody
      rw [if_neg (by simpa using hn)]; rfl
    rw [List.forIn_cons]
    match r, h with
    | [], h =>
      unfold eqFs at h
      split at h
      · rename_i hn
        simp only [Option.some.injEq] at h
        subst h
        rw [Sem.run_bind, skip (by simpa using hn)]; rfl
      · rename_i hn
        rw [Sem.run_bind, one b (by simpa using hn) h]
        cases b <;> rfl
    | g :: r, h =>
      unfold eqFs at h
      split at h
      · rename_i hn
        rw [Sem.run_bind, skip (by simpa using hn)]
        exact eqFs_run hrec (g :: r) b h w
      · rename_i hn
        have hn' : f.name ≠ "_" := by simpa using hn
        split at h
        · rename_i x y hx hy
          split at h
          · rename_i p q hp hq
            simp only [Option.some.injEq] at h
            subst h
            rw [Sem.run_bind, one p hn' (by rw [hx, hy]; exact hp)]
            cases p
            · rfl
            · exact eqFs_run hrec (g :: r) q hq w
          · cases h
        · cases h
theorem eqB_run : ∀ (d : Nat) (t : TypeId) (x y : Value) (b : Bool), eqB P d t x y = some b → ∀ w : World, (Op.equalIn d t x y).run P w = .ok b w
  | 0, _, _, _, _, h, _ => by simp [eqB] at h
  | d + 1, t, x, y, b, h, w => by
    unfold eqB at h
    unfold Op.equalIn
    split at h
    · rename_i a c ht
      simp only [Option.some.injEq] at h
      subst h
      simp [underlying, ht]
    · rename_i kk j a j' c ht
      split at h
      · rename_i hj
        simp only [Option.some.injEq] at h
        subst h
        have : j = j' := by simpa using hj
        subst this
        simp [underlying, ht]
      · cases h
    · rename_i a c ht
      simp only [Option.some.injEq] at h
      subst h
      simp [underlying, ht]
    · rename_i fs xs ys ht
      split at h
      · cases h
      · rename_i hst
        have hu : (underlying t).run P w = .ok (.struct fs) w := by simp [underlying, ht]
        rw [Sem.run_bind, hu]
        simp only [Result.andThen_ok]
        have hp : (program).run P w = .ok P w := rfl
        rw [Sem.run_bind, hp]
        simp only [Result.andThen_ok, hst]
        have key := eqFs_run (P := P) (d := d) (xs := xs) (ys := ys) (eqB_run d) fs.toList b h w
        rw [← Array.forIn_toList]
        simp only [Bool.false_eq_true, if_false]
        rw [Sem.run_bind]
        unfold eqBody at key
        rw [key]
        cases b <;> rfl
    · cases h
def decBinT (ops : Array Oper) (k n : Nat) (F : PF) : Option (Option Tmp × BinOp × TypeId × Value × Value) :=
  match dec ops k n F with | some ⟨dst, .binOp b t x y _, _, _, _, _⟩ => some (dst, b, t, evD F x, evD F y) | _ => none
/-- No interface with methods lies within. -/
theorem run_eqS {ops : Array Oper} {k n : Nat} {F : PF} {dst : Option Tmp} {t : TypeId} {xs ys : Array Value} {neg b : Bool} (hd : decBinT ops k n F = some (dst, if neg then .neq else .eql, t, .agg xs, .agg ys))
    (hg : P.eqGuardType P.depth t = false) (hb : eqB P 10000 t (.agg xs) (.agg ys) = some b) (w : World) : decRun P ops k n F w = some (dst, .ok (.value (.bool (if neg then !b else b))) w) := by
  unfold decBinT at hd
  split at hd
  · rename_i d' b' t' x' y' yt ty pos af gd hdec
    simp only [Option.some.injEq, Prod.mk.injEq] at hd
    obtain ⟨rfl, rfl, rfl, hx, hy⟩ := hd
    unfold decRun
    rw [hdec]
    have hr := eqB_run (P := P) 10000 t' (.agg xs) (.agg ys) b hb w
    have hp : (program).run P w = .ok P w := rfl
    cases neg <;> simp [execOp, hx, hy, eqGuard, hg, binOp, Op.equal, Op.maxDepth, hr, hp]
  · cases hd
end
end Go.V
