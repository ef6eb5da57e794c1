import Derived.Test.YtjiagljaipadmaaMa
namespace Go.V
open Go.RowKit Go.Proofs
/-! ### What an operator makes of two numbers -/
theorem bv32 {x : Int} (h : IU32 x) : (BitVec.ofInt IntKind.u32.bits x).toNat = x.toNat := by
  rw [BitVec.toNat_ofInt]; simp only [IntKind.bits]; omega
theorem bAnd32 {x y : Int} (hx : IU32 x) (hy : IU32 y) : bAnd .u32 x y = ((x.toNat &&& y.toNat : Nat) : Int) := by
  unfold bAnd
  rw [BitVec.toNat_and, bv32 hx, bv32 hy, wrapU32_eq]
  have : x.toNat &&& y.toNat ≤ x.toNat := Nat.and_le_left
  omega
theorem lt32 {x : Int} (h : IU32 x) : x.toNat < 2 ^ 32 := by omega
theorem bOr32 {x y : Int} (hx : IU32 x) (hy : IU32 y) : bOr .u32 x y = ((x.toNat ||| y.toNat : Nat) : Int) := by
  unfold bOr
  rw [BitVec.toNat_or, bv32 hx, bv32 hy, wrapU32_eq]
  have := Nat.or_lt_two_pow (lt32 hx) (lt32 hy)
  omega
theorem bXor32 {x y : Int} (hx : IU32 x) (hy : IU32 y) : bXor .u32 x y = ((x.toNat ^^^ y.toNat : Nat) : Int) := by
  unfold bXor
  rw [BitVec.toNat_xor, bv32 hx, bv32 hy, wrapU32_eq]
  have := Nat.xor_lt_two_pow (lt32 hx) (lt32 hy)
  omega
theorem sShr32 {x y : Int} (hy : 0 ≤ y ∧ y ≤ 32) : sShr .u32 x y = x / 2 ^ y.toNat := by
  unfold sShr
  rw [Int.fdiv_eq_ediv_of_nonneg _ (by exact Int.le_of_lt (Int.pow_pos (by omega)))]
  congr 2
  simp only [IntKind.bits]; omega
theorem sShl32 {x y : Int} (hy : 0 ≤ y ∧ y ≤ 32) : sShl .u32 x y = (x * 2 ^ y.toNat) % 4294967296 := by
  unfold sShl
  rw [wrapU32_eq]
  congr 3
  simp only [IntKind.bits]; omega
def sizeN (nw : Bool) : Nat := if nw then 32 else 64
theorem most_pow (nw : Bool) : mostI nw + 1 = 2 ^ sizeN nw := by cases nw <;> decide
theorem sizeN_or (nw : Bool) : sizeN nw = 32 ∨ sizeN nw = 64 := by cases nw <;> simp [sizeN]
def sarI (nw : Bool) (p : Int) (s : Nat) : Int := ((sarN (sizeN nw) p.toNat s (decide (mostI nw < 2 * p)) : Nat) : Int)
def shN (nw : Bool) (q : Int) : Nat := (q % (sizeN nw : Int)).toNat
theorem shN_lt (nw : Bool) (q : Int) : shN nw q < sizeN nw := by unfold shN; rcases sizeN_or nw with h | h <;> rw [h] <;> omega
/-- an operator of two numbers that are cut; none: by nought. -/
def aluE (nw : Bool) (op p q : Int) : Option Int :=
  if op = 1 then some ((p + q) % (mostI nw + 1)) else if op = 2 then some ((p - q) % (mostI nw + 1)) else if op = 3 then some ((p * q) % (mostI nw + 1))
  else if op = 4 then (if q = 0 then none else some (p / q)) else if op = 5 then (if q = 0 then none else some (p % q))
  else if op = 6 then some ((p.toNat &&& q.toNat : Nat) : Int) else if op = 7 then some ((p.toNat ||| q.toNat : Nat) : Int) else if op = 8 then some ((p.toNat ^^^ q.toNat : Nat) : Int)
  else if op = 9 then some ((p * 2 ^ shN nw q) % (mostI nw + 1)) else if op = 10 then some (p / 2 ^ shN nw q) else if op = 11 then some (sarI nw p (shN nw q))
  else if op = 12 then some q else some ((0 - p) % (mostI nw + 1))
def cutN (nw : Bool) (p : Int) : Int := if nw then p % 4294967296 else p
theorem cutN_ok {nw : Bool} {p : Int} (h : IU64 p) : 0 ≤ cutN nw p ∧ cutN nw p ≤ mostI nw := by
  cases nw with
  | true => show 0 ≤ p % 4294967296 ∧ p % 4294967296 ≤ 4294967295; omega
  | false => exact h
def aluV (o : Option Int) : Int × Int := match o with | some v => (v, 0) | none => (0, 113)
theorem top_iff (nw : Bool) {a : Nat} (ha : a < 2 ^ sizeN nw) : a.testBit (sizeN nw - 1) = decide (mostI nw < 2 * (a : Int)) := by
  cases nw with
  | true => rw [show sizeN true - 1 = 31 from rfl, topBit (z := 31) ha, show mostI true = 4294967295 from rfl]; rw [Bool.eq_iff_iff, decide_eq_true_eq, decide_eq_true_eq]; omega
  | false => rw [show sizeN false - 1 = 63 from rfl, topBit (z := 63) ha, show mostI false = 18446744073709551615 from rfl]; rw [Bool.eq_iff_iff, decide_eq_true_eq, decide_eq_true_eq]; omega
theorem sh_nat (nw : Bool) {q : Int} (_h : 0 ≤ q) : q % (sizeN nw : Int) = ((shN nw q : Nat) : Int) := by unfold shN; rcases sizeN_or nw with h | h <;> rw [h] <;> omega
theorem alu_Do_eq {op : Int} (hop : 1 ≤ op ∧ op ≤ 13) {nw : Bool} {p q : Int} (hp : IU64 p) (hq : IU64 q) : alu_Do op nw p q = aluV (aluE nw op (cutN nw p) (cutN nw q)) := by
  have hh : op = 1 ∨ op = 2 ∨ op = 3 ∨ op = 4 ∨ op = 5 ∨ op = 6 ∨ op = 7 ∨ op = 8 ∨ op = 9 ∨ op = 10 ∨ op = 11 ∨ op = 12 ∨ op = 13 := by omega
  cases nw with
  | true =>
    have hx : IU32 (p % 4294967296) := by omega
    have hy : IU32 (q % 4294967296) := by omega
    show alu_do_u32 op 32 (IntKind.u32.wrap p) (IntKind.u32.wrap q) = aluV (aluE true op (p % 4294967296) (q % 4294967296))
    rw [wrapU32_eq, wrapU32_eq]
    generalize p % 4294967296 = x at *
    generalize q % 4294967296 = y at *
    have hy32 : y % 32 = ((shN true y : Nat) : Int) := sh_nat true hy.1
    have hlt : shN true y < 32 := shN_lt true y
    have hd : 0 ≤ x / y ∧ x / y ≤ x := ⟨Int.ediv_nonneg hx.1 hy.1, Int.ediv_le_self _ hx.1⟩
    rcases hh with rfl | rfl | rfl | rfl | rfl | rfl | rfl | rfl | rfl | rfl | rfl | rfl | rfl
    · show (IntKind.u32.wrap (x + y), (0 : Int)) = ((x + y) % (4294967295 + 1), 0); rw [wrapU32_eq]; rfl
    · show (IntKind.u32.wrap (x - y), (0 : Int)) = ((x - y) % (4294967295 + 1), 0); rw [wrapU32_eq]; rfl
    · show (IntKind.u32.wrap (x * y), (0 : Int)) = ((x * y) % (4294967295 + 1), 0); rw [wrapU32_eq]; rfl
    · by_cases h0 : y = 0
      · subst h0; rfl
      · show (if (y == 0) = true then ((0 : Int), (113 : Int)) else (IntKind.u32.wrap (x.tdiv y), 0)) = aluV (if y = 0 then none else some (x / y))
        rw [if_neg (by simpa using h0), if_neg h0, wrapU32_eq, Int.tdiv_eq_ediv_of_nonneg hx.1]
        show _ = (x / y, (0 : Int))
        congr 1; omega
    · by_cases h0 : y = 0
      · subst h0; rfl
      · show (if (y == 0) = true then ((0 : Int), (113 : Int)) else (x.tmod y, 0)) = aluV (if y = 0 then none else some (x % y))
        rw [if_neg (by simpa using h0), if_neg h0, Int.tmod_eq_emod_of_nonneg hx.1]; rfl
    · show (bAnd .u32 x y, (0 : Int)) = (((x.toNat &&& y.toNat : Nat) : Int), 0); rw [bAnd32 hx hy]
    · show (bOr .u32 x y, (0 : Int)) = (((x.toNat ||| y.toNat : Nat) : Int), 0); rw [bOr32 hx hy]
    · show (bXor .u32 x y, (0 : Int)) = (((x.toNat ^^^ y.toNat : Nat) : Int), 0); rw [bXor32 hx hy]
    · show (sShl .u32 x (y.tmod 32), (0 : Int)) = ((x * 2 ^ shN true y) % (4294967295 + 1), 0); rw [Int.tmod_eq_emod_of_nonneg hy.1, hy32, sShl32 (by omega)]; rfl
    · show (sShr .u32 x (y.tmod 32), (0 : Int)) = (x / 2 ^ shN true y, 0); rw [Int.tmod_eq_emod_of_nonneg hy.1, hy32, sShr32 (by omega)]; rfl
    · show (IntKind.u32.wrap (sShr .i32 (IntKind.i32.wrap x) (y.tmod 32)), (0 : Int)) = (sarI true x (shN true y), 0)
      obtain ⟨a, rfl⟩ := Int.eq_ofNat_of_zero_le hx.1
      rw [Int.tmod_eq_emod_of_nonneg hy.1, hy32, sar32 (by omega) hlt]
      unfold sarI
      rw [← top_iff true (a := a) (show a < 2 ^ 32 by omega)]; rfl
    · rfl
    · show (IntKind.u32.wrap (0 - x), (0 : Int)) = ((0 - x) % (4294967295 + 1), 0); rw [wrapU32_eq]; rfl
  | false =>
    show alu_do_u64 op 64 p q = aluV (aluE false op p q)
    have hx := hp; have hy := hq
    have hy64 : q % 64 = ((shN false q : Nat) : Int) := sh_nat false hy.1
    have hlt : shN false q < 64 := shN_lt false q
    have hd : 0 ≤ p / q ∧ p / q ≤ p := ⟨Int.ediv_nonneg hx.1 hy.1, Int.ediv_le_self _ hx.1⟩
    rcases hh with rfl | rfl | rfl | rfl | rfl | rfl | rfl | rfl | rfl | rfl | rfl | rfl | rfl
    · show (IntKind.u64.wrap (p + q), (0 : Int)) = ((p + q) % (18446744073709551615 + 1), 0); rw [wrapU64_eq]; rfl
    · show (IntKind.u64.wrap (p - q), (0 : Int)) = ((p - q) % (18446744073709551615 + 1), 0); rw [wrapU64_eq]; rfl
    · show (IntKind.u64.wrap (p * q), (0 : Int)) = ((p * q) % (18446744073709551615 + 1), 0); rw [wrapU64_eq]; rfl
    · by_cases h0 : q = 0
      · subst h0; rfl
      · show (if (q == 0) = true then ((0 : Int), (113 : Int)) else (IntKind.u64.wrap (p.tdiv q), 0)) = aluV (if q = 0 then none else some (p / q))
        rw [if_neg (by simpa using h0), if_neg h0, wrapU64_eq, Int.tdiv_eq_ediv_of_nonneg hx.1]
        show _ = (p / q, (0 : Int))
        congr 1; omega
    · by_cases h0 : q = 0
      · subst h0; rfl
      · show (if (q == 0) = true then ((0 : Int), (113 : Int)) else (p.tmod q, 0)) = aluV (if q = 0 then none else some (p % q))
        rw [if_neg (by simpa using h0), if_neg h0, Int.tmod_eq_emod_of_nonneg hx.1]; rfl
    · show (bAnd .u64 p q, (0 : Int)) = (((p.toNat &&& q.toNat : Nat) : Int), 0); rw [bAnd64 hx hy]
    · show (bOr .u64 p q, (0 : Int)) = (((p.toNat ||| q.toNat : Nat) : Int), 0); rw [bOr64 hx hy]
    · show (bXor .u64 p q, (0 : Int)) = (((p.toNat ^^^ q.toNat : Nat) : Int), 0); rw [bXor64 hx hy]
    · show (sShl .u64 p (q.tmod 64), (0 : Int)) = ((p * 2 ^ shN false q) % (18446744073709551615 + 1), 0); rw [Int.tmod_eq_emod_of_nonneg hy.1, hy64, sShl64 (by omega)]; rfl
    · show (sShr .u64 p (q.tmod 64), (0 : Int)) = (p / 2 ^ shN false q, 0); rw [Int.tmod_eq_emod_of_nonneg hy.1, hy64, sShr64 (by omega)]; rfl
    · show (IntKind.u64.wrap (sShr .i64 (IntKind.i64.wrap p) (q.tmod 64)), (0 : Int)) = (sarI false p (shN false q), 0)
      obtain ⟨a, rfl⟩ := Int.eq_ofNat_of_zero_le hx.1
      rw [Int.tmod_eq_emod_of_nonneg hy.1, hy64, sar64 (by omega) hlt]
      unfold sarI
      rw [← top_iff false (a := a) (show a < 2 ^ 64 by omega)]; rfl
    · rfl
    · show (IntKind.u64.wrap (0 - p), (0 : Int)) = ((0 - p) % (18446744073709551615 + 1), 0); rw [wrapU64_eq]; rfl
/-! ### What an operator makes of two spans that are cut -/
def fillI (p q : Int) : Int := fillN ((p.toNat ||| q.toNat : Nat) : Int)
def rulesE (nw : Bool) (op : Int) (u v : TSpan) : Option TSpan :=
  if op = 1 then (if v.Hi ≤ mostI nw - u.Hi ∨ v.Lo > mostI nw - u.Lo then some ⟨(u.Lo + v.Lo) % (mostI nw + 1), (u.Hi + v.Hi) % (mostI nw + 1)⟩ else none)
  else if op = 2 then (if u.Lo ≥ v.Hi ∨ u.Hi < v.Lo then some ⟨(u.Lo - v.Hi) % (mostI nw + 1), (u.Hi - v.Lo) % (mostI nw + 1)⟩ else none)
  else if op = 3 then (if u.Hi * v.Hi ≤ mostI nw then some ⟨u.Lo * v.Lo, u.Hi * v.Hi⟩ else none)
  else if op = 4 then some ⟨u.Lo / max v.Hi 1, u.Hi / max v.Lo 1⟩
  else if op = 5 then some (if u.Hi < max v.Lo 1 then u else ⟨0, min u.Hi (max v.Hi 1 - 1)⟩)
  else if op = 6 then some (if u.Lo = u.Hi ∧ v.Lo = v.Hi then ⟨((u.Lo.toNat &&& v.Lo.toNat : Nat) : Int), ((u.Lo.toNat &&& v.Lo.toNat : Nat) : Int)⟩ else ⟨0, min u.Hi v.Hi⟩)
  else if op = 7 then some (if u.Lo = u.Hi ∧ v.Lo = v.Hi then ⟨((u.Lo.toNat ||| v.Lo.toNat : Nat) : Int), ((u.Lo.toNat ||| v.Lo.toNat : Nat) : Int)⟩ else ⟨max u.Lo v.Lo, fillI u.Hi v.Hi⟩)
  else if op = 8 then some (if u.Lo = u.Hi ∧ v.Lo = v.Hi then ⟨((u.Lo.toNat ^^^ v.Lo.toNat : Nat) : Int), ((u.Lo.toNat ^^^ v.Lo.toNat : Nat) : Int)⟩ else ⟨0, fillI u.Hi v.Hi⟩)
  else if op = 9 then (if v.Lo = v.Hi ∧ u.Hi * 2 ^ shN nw v.Lo ≤ mostI nw then some ⟨u.Lo * 2 ^ shN nw v.Lo, u.Hi * 2 ^ shN nw v.Lo⟩ else none)
  else if op = 10 then some (if v.Lo = v.Hi then ⟨u.Lo / 2 ^ shN nw v.Lo, u.Hi / 2 ^ shN nw v.Lo⟩ else if v.Hi ≥ sizeN nw then ⟨0, u.Hi⟩ else ⟨u.Lo / 2 ^ v.Hi.toNat, u.Hi / 2 ^ v.Lo.toNat⟩)
  else if op = 11 then (if v.Lo = v.Hi ∧ (mostI nw < 2 * u.Lo ↔ mostI nw < 2 * u.Hi) then some ⟨sarI nw u.Lo (shN nw v.Lo), sarI nw u.Hi (shN nw v.Lo)⟩ else none)
  else if op = 12 then some v
  else (if u.Hi = 0 then some u else if u.Lo > 0 then some ⟨(0 - u.Hi) % (mostI nw + 1), (0 - u.Lo) % (mostI nw + 1)⟩ else none)
theorem optF_ite {α β : Type} (c : Prop) [Decidable c] (x : α) (f : α → Option β) : optF (if c then some x else none) none f = if c then f x else none := by split <;> rfl
theorem mustI {α : Type} {c : Bool} {p : Prop} [Decidable p] (h : c = decide p) (x y : α) (hxy : p → x = y) : (optF (span_must c) none fun _ => some x) = if p then some y else none := by
  rw [optF_must, h]
  by_cases hp : p
  · simp [hp, hxy hp]
  · simp [hp]
theorem ends_mod {nw : Bool} (a b : TSpan) (x y : Int) : span_work_ends (wk nw a b) (IntKind.u64.wrap x) (IntKind.u64.wrap y) = ⟨x % (mostI nw + 1), y % (mostI nw + 1)⟩ := by
  have key : ∀ x : Int, bAnd .u64 (IntKind.u64.wrap x) (mostI nw) = x % (mostI nw + 1) := by
    intro x
    cases nw with
    | true => show bAnd .u64 _ 4294967295 = x % 4294967296; rw [and_low (wrapU64 x), wrapU64_eq]; omega
    | false => show bAnd .u64 _ 18446744073709551615 = x % 18446744073709551616; rw [and_all (wrapU64 x), wrapU64_eq]
  show (⟨_, _⟩ : TSpan) = _
  rw [show (wk nw a b).most = mostI nw from rfl, key, key]
theorem fill_or {nw : Bool} {p q : Int} (hp : 0 ≤ p ∧ p ≤ mostI nw) (hq : 0 ≤ q ∧ q ≤ mostI nw) : span_fill (bOr .u64 p q) = fillI p q := by
  have hm := mostI_u nw
  have hw : IU64 (bOr .u64 p q) := wrapU64 _
  rw [fill_eq hw, bOr64 ⟨hp.1, by omega⟩ ⟨hq.1, by omega⟩]; rfl
theorem sar_val {nw : Bool} {x y : Int} (hx : 0 ≤ x ∧ x ≤ mostI nw) (hy : 0 ≤ y ∧ y ≤ mostI nw) : (alu_Do 11 nw x y).1 = sarI nw x (shN nw y) := by
  have hm := mostI_u nw
  have e : ∀ z : Int, (0 ≤ z ∧ z ≤ mostI nw) → cutN nw z = z := by
    intro z hz
    cases nw with
    | true => show z % 4294967296 = z; have : mostI true = 4294967295 := rfl; omega
    | false => rfl
  rw [alu_Do_eq (by omega) ⟨hx.1, by omega⟩ ⟨hy.1, by omega⟩, e x hx, e y hy]; rfl
theorem rulesE_eq {op : Int} (hop : 1 ≤ op ∧ op ≤ 13) {nw : Bool} {u v : TSpan} (hu : SpOk nw u) (hv : SpOk nw v) : rulesOf op (wk nw u v) = rulesE nw op u v := by
  have hu1 := hu.lo; have hu2 := hu.le; have hu3 := hu.hi
  have hv1 := hv.lo; have hv2 := hv.le; have hv3 := hv.hi
  have hm := mostI_u nw
  have iu := hu.u; have iv := hv.u
  have hh : op = 1 ∨ op = 2 ∨ op = 3 ∨ op = 4 ∨ op = 5 ∨ op = 6 ∨ op = 7 ∨ op = 8 ∨ op = 9 ∨ op = 10 ∨ op = 11 ∨ op = 12 ∨ op = 13 := by omega
  rcases hh with rfl | rfl | rfl | rfl | rfl | rfl | rfl | rfl | rfl | rfl | rfl | rfl | rfl
  · refine mustI (p := v.Hi ≤ mostI nw - u.Hi ∨ v.Lo > mostI nw - u.Lo) ?_ _ _ fun _ => ends_mod u v _ _
    show (decide (v.Hi ≤ IntKind.u64.wrap (mostI nw - u.Hi)) || decide (v.Lo > IntKind.u64.wrap (mostI nw - u.Lo))) = _
    rw [wrapU64_eq, wrapU64_eq, Int.emod_eq_of_lt (by omega) (by omega), Int.emod_eq_of_lt (by omega) (by omega)]
    simp
  · refine mustI (p := u.Lo ≥ v.Hi ∨ u.Hi < v.Lo) ?_ _ _ fun _ => ends_mod u v _ _
    show (decide (u.Lo ≥ v.Hi) || decide (u.Hi < v.Lo)) = _
    simp
  · refine mustI (p := u.Hi * v.Hi ≤ mostI nw) ?_ _ _ fun h => ?_
    · show (((Mul64 u.Hi v.Hi).1 == 0) && decide ((Mul64 u.Hi v.Hi).2 ≤ mostI nw)) = _
      exact mul_cond ⟨by omega, hu3⟩ ⟨by omega, hv3⟩
    · show (⟨IntKind.u64.wrap (u.Lo * v.Lo), (Mul64 u.Hi v.Hi).2⟩ : TSpan) = _
      have h1 : 0 ≤ u.Lo * v.Lo := Int.mul_nonneg hu1 hv1
      have h2 : u.Lo * v.Lo ≤ u.Hi * v.Hi := Int.mul_le_mul hu2 hv2 hv1 (by omega)
      rw [mulLo, wrapU64_eq, Int.emod_eq_of_lt h1 (by omega), Int.emod_eq_of_lt (by omega) (by omega)]
  · show some (⟨IntKind.u64.wrap (u.Lo.tdiv (gMax v.Hi 1)), IntKind.u64.wrap (u.Hi.tdiv (gMax v.Lo 1))⟩ : TSpan) = some ⟨u.Lo / max v.Hi 1, u.Hi / max v.Lo 1⟩
    have d : ∀ x y : Int, 0 ≤ x → x ≤ mostI nw → IntKind.u64.wrap (x.tdiv (gMax y 1)) = x / max y 1 := by
      intro x y h1 h2
      rw [gMax_eq, Int.tdiv_eq_ediv_of_nonneg h1, wrapU64_eq]
      have h3 : 0 ≤ x / max y 1 := Int.ediv_nonneg h1 (by omega)
      have h4 : x / max y 1 ≤ x := Int.ediv_le_self _ h1
      exact Int.emod_eq_of_lt h3 (by omega)
    rw [d _ _ hu1 (by omega), d _ _ (by omega) hu3]
  · show some (if decide (u.Hi < gMax v.Lo 1) = true then u else (⟨0, gMin u.Hi (IntKind.u64.wrap (gMax v.Hi 1 - 1))⟩ : TSpan)) = some (if u.Hi < max v.Lo 1 then u else ⟨0, min u.Hi (max v.Hi 1 - 1)⟩)
    rw [gMax_eq, gMax_eq, gMin_eq, wrapU64_eq, Int.emod_eq_of_lt (by omega) (by omega)]
    simp only [decide_eq_true_eq]
  · show some (span_work_and (wk nw u v)) = some (if u.Lo = u.Hi ∧ v.Lo = v.Hi then _ else _)
    unfold span_work_and letF
    simp only [both_iff]
    by_cases h1 : u.Lo = u.Hi <;> by_cases h2 : v.Lo = v.Hi <;> simp [h1, h2, wk, span_Of, gMin_eq]
    rw [bAnd64 iu.2 iv.2]
  · show some (span_work_or (wk nw u v)) = some (if u.Lo = u.Hi ∧ v.Lo = v.Hi then _ else _)
    unfold span_work_or letF
    simp only [both_iff]
    have hf := fill_or (nw := nw) ⟨Int.le_trans hu1 hu2, hu3⟩ ⟨Int.le_trans hv1 hv2, hv3⟩
    by_cases h1 : u.Lo = u.Hi <;> by_cases h2 : v.Lo = v.Hi <;> simp [h1, h2, wk, span_Of, gMax_eq, hf]
    rw [bOr64 iu.2 iv.2]
  · show some (span_work_xor (wk nw u v)) = some (if u.Lo = u.Hi ∧ v.Lo = v.Hi then _ else _)
    unfold span_work_xor letF
    simp only [both_iff]
    have hf := fill_or (nw := nw) ⟨Int.le_trans hu1 hu2, hu3⟩ ⟨Int.le_trans hv1 hv2, hv3⟩
    by_cases h1 : u.Lo = u.Hi <;> by_cases h2 : v.Lo = v.Hi <;> simp [h1, h2, wk, span_Of, hf]
    rw [bXor64 iu.2 iv.2]
  · have hsz : (if nw then (32 : Int) else 64) = (sizeN nw : Int) := by cases nw <;> rfl
    have hc : v.Lo.tmod (if nw then (32 : Int) else 64) = ((shN nw v.Lo : Nat) : Int) := by rw [Int.tmod_eq_emod_of_nonneg hv1, hsz, sh_nat nw hv1]
    have hlt := shN_lt nw v.Lo
    have hs64 : sizeN nw ≤ 64 := by have := sizeN_or nw; omega
    have hpow : (0 : Int) < 2 ^ shN nw v.Lo := Int.pow_pos (by omega)
    have hle : ∀ x : Int, x ≤ sShr .u64 (mostI nw) ((shN nw v.Lo : Nat) : Int) ↔ x * 2 ^ shN nw v.Lo ≤ mostI nw := by
      intro x; rw [sShr64 (by omega), Int.toNat_natCast]; exact Int.le_ediv_iff_mul_le hpow
    refine mustI (p := v.Lo = v.Hi ∧ u.Hi * 2 ^ shN nw v.Lo ≤ mostI nw) ?_ _ _ fun h => ?_
    · show (span_one v && decide (u.Hi ≤ sShr .u64 (mostI nw) (v.Lo.tmod (if nw then (32 : Int) else 64)))) = _
      rw [one_iff, hc, Bool.eq_iff_iff]
      simp only [Bool.and_eq_true, decide_eq_true_eq, hle]
    · show (⟨sShl .u64 u.Lo (v.Lo.tmod (if nw then (32 : Int) else 64)), sShl .u64 u.Hi (v.Lo.tmod (if nw then (32 : Int) else 64))⟩ : TSpan) = _
      rw [hc]
      have h3 := shl_cond (x := u.Hi) (c := ((shN nw v.Lo : Nat) : Int)) (by omega) (by omega) ((hle _).2 h.2)
      have h4 := shl_cond (x := u.Lo) (c := ((shN nw v.Lo : Nat) : Int)) hu1 (by omega) (Int.le_trans hu2 ((hle _).2 h.2))
      rw [h3.1, h4.1, Int.toNat_natCast]
  · have hsz : (if nw then (32 : Int) else 64) = (sizeN nw : Int) := by cases nw <;> rfl
    have hc : v.Lo.tmod (if nw then (32 : Int) else 64) = ((shN nw v.Lo : Nat) : Int) := by rw [Int.tmod_eq_emod_of_nonneg hv1, hsz, sh_nat nw hv1]
    have hlt := shN_lt nw v.Lo
    have hs64 : sizeN nw ≤ 64 := by have := sizeN_or nw; omega
    show some (if span_one v then (⟨sShr .u64 u.Lo (v.Hi.tmod (if nw then 32 else 64)), sShr .u64 u.Hi (v.Lo.tmod (if nw then 32 else 64))⟩ : TSpan) else if decide (v.Hi ≥ (if nw then (32 : Int) else 64)) then ⟨0, u.Hi⟩ else ⟨sShr .u64 u.Lo v.Hi, sShr .u64 u.Hi v.Lo⟩) = some (if v.Lo = v.Hi then _ else if v.Hi ≥ sizeN nw then _ else _)
    rw [one_iff]
    by_cases h1 : v.Lo = v.Hi
    · simp only [h1, decide_true, if_true]
      rw [h1] at hc hlt
      rw [hc, sShr64 (by omega), sShr64 (by omega), Int.toNat_natCast]
    · simp only [h1, decide_false, Bool.false_eq_true, if_false]
      rw [hsz]
      by_cases h2 : v.Hi ≥ (sizeN nw : Int)
      · simp only [h2, decide_true, if_true]
      · simp only [h2, decide_false, Bool.false_eq_true, if_false]
        rw [sShr64 (by omega), sShr64 (by omega)]
  · refine mustI (p := v.Lo = v.Hi ∧ (mostI nw < 2 * u.Lo ↔ mostI nw < 2 * u.Hi)) ?_ _ _ fun _ => ?_
    · show (span_one v && !(span_work_mixed (wk nw u v) u)) = _
      rw [one_iff, mixed_eq hu]
      by_cases h1 : v.Lo = v.Hi <;> by_cases h2 : mostI nw < 2 * u.Lo <;> by_cases h3 : mostI nw < 2 * u.Hi <;> simp [h1, h2, h3]
    · show (⟨(alu_Do 11 nw u.Lo v.Lo).1, (alu_Do 11 nw u.Hi v.Lo).1⟩ : TSpan) = _
      rw [sar_val ⟨hu1, by omega⟩ ⟨hv1, by omega⟩, sar_val ⟨by omega, hu3⟩ ⟨hv1, by omega⟩]
  · rfl
  · show span_work_neg (wk nw u v) = if u.Hi = 0 then some u else if u.Lo > 0 then _ else none
    unfold span_work_neg
    by_cases h1 : u.Hi = 0
    · have h2 : ((wk nw u v).a.Hi == 0) = true := by simpa [wk] using h1
      rw [h2, if_pos h1]; rfl
    · have h2 : ((wk nw u v).a.Hi == 0) = false := by simpa [wk] using h1
      rw [h2, if_neg h1]
      exact mustI (p := u.Lo > 0) rfl _ _ fun _ => ends_mod u v _ _
/-! ### It has all that comes of their numbers; of spans within others it is within -/
def Hs (s : TSpan) (x : Int) : Prop := s.Lo ≤ x ∧ x ≤ s.Hi
def Wi (s t : TSpan) : Prop := t.Lo ≤ s.Lo ∧ s.Hi ≤ t.Hi
theorem div_anti {a c d : Int} (ha : 0 ≤ a) (hc : 0 < c) (hd : c ≤ d) : a / d ≤ a / c := by
  rw [Int.le_ediv_iff_mul_le hc]
  have h1 : 0 ≤ a / d := Int.ediv_nonneg ha (by omega)
  have h2 : a / d * c ≤ a / d * d := Int.mul_le_mul_of_nonneg_left hd h1
  have h3 : a / d * d ≤ a := Int.ediv_mul_le a (by omega)
  omega
theorem div_le {a b c d : Int} (h0 : 0 ≤ a) (hab : a ≤ b) (hc : 0 < c) (hd : c ≤ d) : a / d ≤ b / c :=
  Int.le_trans (Int.ediv_le_ediv (by omega) hab) (div_anti (by omega) hc hd)
theorem pow2_pos (k : Nat) : (0 : Int) < 2 ^ k := Int.pow_pos (by omega)
theorem pow2_le {j k : Nat} (h : j ≤ k) : (2 : Int) ^ j ≤ 2 ^ k := by
  have := Nat.pow_le_pow_right (n := 2) (by decide) h
  have e : ∀ n : Nat, (2 : Int) ^ n = ((2 ^ n : Nat) : Int) := fun n => by simp
  rw [e, e]; omega
theorem fillN_form {n : Int} (hn : 0 ≤ n) : ∃ j : Nat, fillN n = ((2 ^ j : Nat) : Int) - 1 ∧ n.toNat < 2 ^ j ∧ ∀ k : Nat, n.toNat < 2 ^ k → j ≤ k := by
  unfold fillN
  by_cases h0 : n = 0
  · subst h0; exact ⟨0, by simp, by decide, fun k _ => Nat.zero_le k⟩
  · rw [if_neg h0]
    refine ⟨Nat.log2 n.toNat + 1, rfl, (Nat.log2_lt (by omega)).1 (Nat.lt_succ_self _), fun k hk => ?_⟩
    have := (Nat.log2_lt (n := n.toNat) (k := k) (by omega)).2 hk
    omega
theorem fillI_form {p q : Int} : ∃ j : Nat, fillI p q = ((2 ^ j : Nat) : Int) - 1 ∧ p.toNat < 2 ^ j ∧ q.toNat < 2 ^ j ∧ ∀ k : Nat, p.toNat < 2 ^ k → q.toNat < 2 ^ k → j ≤ k := by
  obtain ⟨j, h1, h2, h3⟩ := fillN_form (n := ((p.toNat ||| q.toNat : Nat) : Int)) (by omega)
  rw [Int.toNat_natCast] at h2 h3
  exact ⟨j, h1, Nat.lt_of_le_of_lt Nat.left_le_or h2, Nat.lt_of_le_of_lt Nat.right_le_or h2, fun k hp hq => h3 k (Nat.or_lt_two_pow hp hq)⟩
theorem fillI_ub {p q a b : Int} (hp : a ≤ p) (hq : b ≤ q) {x : Nat} (hx : ∀ k : Nat, a.toNat < 2 ^ k → b.toNat < 2 ^ k → x < 2 ^ k) : (x : Int) ≤ fillI p q := by
  obtain ⟨j, h1, h2, h3, _⟩ := fillI_form (p := p) (q := q)
  have := hx j (by omega) (by omega)
  omega
theorem fillI_mono {p q a b : Int} (hp : a ≤ p) (hq : b ≤ q) : fillI a b ≤ fillI p q := by
  obtain ⟨j, h1, h2, h3, _⟩ := fillI_form (p := p) (q := q)
  obtain ⟨i, g1, _, _, g4⟩ := fillI_form (p := a) (q := b)
  have := Nat.pow_le_pow_right (n := 2) (by decide) (g4 j (by omega) (by omega))
  omega
theorem fillI_max {nw : Bool} {p q : Int} (hp : 0 ≤ p ∧ p ≤ mostI nw) (hq : 0 ≤ q ∧ q ≤ mostI nw) : max p q ≤ fillI p q ∧ fillI p q ≤ mostI nw := by
  obtain ⟨j, h1, h2, h3, h4⟩ := fillI_form (p := p) (q := q)
  have hm := most_pow nw
  have e : (2 : Int) ^ sizeN nw = ((2 ^ sizeN nw : Nat) : Int) := by simp
  have := Nat.pow_le_pow_right (n := 2) (by decide) (h4 (sizeN nw) (by omega) (by omega))
  omega
theorem sarI_rng {nw : Bool} {p : Int} {s : Nat} (hp : 0 ≤ p ∧ p ≤ mostI nw) (hs : s < sizeN nw) : 0 ≤ sarI nw p s ∧ sarI nw p s ≤ mostI nw := by
  have hm := most_pow nw
  have e : (2 : Int) ^ sizeN nw = ((2 ^ sizeN nw : Nat) : Int) := by simp
  have := sarN_lt (z := sizeN nw) (a := p.toNat) (s := s) (b := decide (mostI nw < 2 * p)) (by omega) hs
  unfold sarI
  omega
theorem sarI_mono {nw : Bool} {p q : Int} {s : Nat} (hp : 0 ≤ p ∧ p ≤ q) (hq : q ≤ mostI nw) (hs : s < sizeN nw) (hb : mostI nw < 2 * p ↔ mostI nw < 2 * q) : sarI nw p s ≤ sarI nw q s := by
  have hm := most_pow nw
  have e : (2 : Int) ^ sizeN nw = ((2 ^ sizeN nw : Nat) : Int) := by simp
  unfold sarI
  rw [sarN_add (by omega) hs, sarN_add (by omega) hs, show decide (mostI nw < 2 * p) = decide (mostI nw < 2 * q) from by rw [Bool.eq_iff_iff, decide_eq_true_eq, decide_eq_true_eq]; exact hb]
  have := Nat.div_le_div_right (c := 2 ^ s) (show p.toNat ≤ q.toNat by omega)
  omega
theorem aluE_rng {nw : Bool} {op p q x : Int} (hop : 1 ≤ op ∧ op ≤ 13) (hp : 0 ≤ p ∧ p ≤ mostI nw) (hq : 0 ≤ q ∧ q ≤ mostI nw) (h : aluE nw op p q = some x) : 0 ≤ x ∧ x ≤ mostI nw := by
  have hm := mostI_u nw
  have hmp := most_pow nw
  have e : (2 : Int) ^ sizeN nw = ((2 ^ sizeN nw : Nat) : Int) := by simp
  have hN : ∀ z : Int, 0 ≤ z % (mostI nw + 1) ∧ z % (mostI nw + 1) ≤ mostI nw := fun z => by
    have h1 := Int.emod_nonneg z (show mostI nw + 1 ≠ 0 by omega)
    have h2 := Int.emod_lt_of_pos z (show 0 < mostI nw + 1 by omega)
    omega
  have hh : op = 1 ∨ op = 2 ∨ op = 3 ∨ op = 4 ∨ op = 5 ∨ op = 6 ∨ op = 7 ∨ op = 8 ∨ op = 9 ∨ op = 10 ∨ op = 11 ∨ op = 12 ∨ op = 13 := by omega
  have hpn : p.toNat < 2 ^ sizeN nw := by omega
  have hqn : q.toNat < 2 ^ sizeN nw := by omega
  have hdv : ∀ y : Int, 0 ≤ y → 0 ≤ p / y ∧ p / y ≤ p := fun y hy => ⟨Int.ediv_nonneg hp.1 hy, Int.ediv_le_self _ hp.1⟩
  rcases hh with rfl | rfl | rfl | rfl | rfl | rfl | rfl | rfl | rfl | rfl | rfl | rfl | rfl
  · obtain rfl : _ = x := Option.some.inj h; exact hN _
  · obtain rfl : _ = x := Option.some.inj h; exact hN _
  · obtain rfl : _ = x := Option.some.inj h; exact hN _
  · have h : (if q = 0 then none else some (p / q)) = some x := h
    split at h
    · cases h
    · obtain rfl : _ = x := Option.some.inj h; have := hdv q hq.1; omega
  · have h : (if q = 0 then none else some (p % q)) = some x := h
    split at h
    · cases h
    · obtain rfl : _ = x := Option.some.inj h
      have h1 := Int.emod_nonneg p (show q ≠ 0 by omega)
      have h2 := Int.emod_lt_of_pos p (show 0 < q by omega)
      omega
  · obtain rfl : ((p.toNat &&& q.toNat : Nat) : Int) = x := Option.some.inj h
    have : p.toNat &&& q.toNat ≤ p.toNat := Nat.and_le_left
    omega
  · obtain rfl : ((p.toNat ||| q.toNat : Nat) : Int) = x := Option.some.inj h
    have := Nat.or_lt_two_pow hpn hqn
    omega
  · obtain rfl : ((p.toNat ^^^ q.toNat : Nat) : Int) = x := Option.some.inj h
    have := Nat.xor_lt_two_pow hpn hqn
    omega
  · obtain rfl : _ = x := Option.some.inj h; exact hN _
  · obtain rfl : p / 2 ^ shN nw q = x := Option.some.inj h; have := hdv (2 ^ shN nw q) (Int.le_of_lt (pow2_pos _)); omega
  · obtain rfl : _ = x := Option.some.inj h; exact sarI_rng hp (shN_lt nw q)
  · obtain rfl : q = x := Option.some.inj h; exact hq
  · obtain rfl : _ = x := Option.some.inj h; exact hN _
theorem add_key {M a b c d p q : Int} (hM : M = 4294967295 ∨ M = 18446744073709551615) (h0 : 0 ≤ a ∧ b ≤ M ∧ 0 ≤ c ∧ d ≤ M) (hp : a ≤ p ∧ p ≤ b) (hq : c ≤ q ∧ q ≤ d) (hc : d ≤ M - b ∨ c > M - a) :
    (a + c) % (M + 1) ≤ (p + q) % (M + 1) ∧ (p + q) % (M + 1) ≤ (b + d) % (M + 1) := by rcases hM with rfl | rfl <;> omega
theorem sub_key {M a b c d p q : Int} (hM : M = 4294967295 ∨ M = 18446744073709551615) (h0 : 0 ≤ a ∧ b ≤ M ∧ 0 ≤ c ∧ d ≤ M) (hp : a ≤ p ∧ p ≤ b) (hq : c ≤ q ∧ q ≤ d) (hc : a ≥ d ∨ b < c) :
    (a - d) % (M + 1) ≤ (p - q) % (M + 1) ∧ (p - q) % (M + 1) ≤ (b - c) % (M + 1) := by rcases hM with rfl | rfl <;> omega
theorem neg_key {M a b p : Int} (hM : M = 4294967295 ∨ M = 18446744073709551615) (h0 : 0 < a ∧ b ≤ M) (hp : a ≤ p ∧ p ≤ b) :
    (0 - b) % (M + 1) ≤ (0 - p) % (M + 1) ∧ (0 - p) % (M + 1) ≤ (0 - a) % (M + 1) ∧ 0 ≤ (0 - p) % (M + 1) ∧ (0 - p) % (M + 1) ≤ M := by rcases hM with rfl | rfl <;> omega
theorem rules_sound {nw : Bool} {op : Int} (hop : 1 ≤ op ∧ op ≤ 13) {u v r : TSpan} (hu : SpOk nw u) (hv : SpOk nw v) (hr : rulesE nw op u v = some r) :
    SpOk nw r ∧ ∀ p q x, Hs u p → Hs v q → aluE nw op p q = some x → Hs r x := by
  have hu1 := hu.lo; have hu2 := hu.le; have hu3 := hu.hi
  have hv1 := hv.lo; have hv2 := hv.le; have hv3 := hv.hi
  have hm := mostI_u nw
  have hmp := most_pow nw
  have e : (2 : Int) ^ sizeN nw = ((2 ^ sizeN nw : Nat) : Int) := by simp
  have hh : op = 1 ∨ op = 2 ∨ op = 3 ∨ op = 4 ∨ op = 5 ∨ op = 6 ∨ op = 7 ∨ op = 8 ∨ op = 9 ∨ op = 10 ∨ op = 11 ∨ op = 12 ∨ op = 13 := by omega
  have hM := mostI_or nw
  -- the value at ends is a value of the operator, and so lies within
  rcases hh with rfl | rfl | rfl | rfl | rfl | rfl | rfl | rfl | rfl | rfl | rfl | rfl | rfl
  · have hr : (if v.Hi ≤ mostI nw - u.Hi ∨ v.Lo > mostI nw - u.Lo then some (⟨(u.Lo + v.Lo) % (mostI nw + 1), (u.Hi + v.Hi) % (mostI nw + 1)⟩ : TSpan) else none) = some r := hr
    split at hr
    · rename_i hc
      obtain rfl := Option.some.inj hr
      have key : ∀ p q, Hs u p → Hs v q → (u.Lo + v.Lo) % (mostI nw + 1) ≤ (p + q) % (mostI nw + 1) ∧ (p + q) % (mostI nw + 1) ≤ (u.Hi + v.Hi) % (mostI nw + 1) :=
        fun p q hp hq => add_key hM ⟨hu1, hu3, hv1, hv3⟩ hp hq hc
      refine ⟨⟨?_, (Int.le_trans (key u.Lo v.Lo ⟨Int.le_refl _, hu2⟩ ⟨Int.le_refl _, hv2⟩).2 (Int.le_refl _)), ?_⟩, fun p q x hp hq hx => ?_⟩
      · exact Int.emod_nonneg _ (by omega)
      · have := Int.emod_lt_of_pos (u.Hi + v.Hi) (show 0 < mostI nw + 1 by omega)
        show (u.Hi + v.Hi) % (mostI nw + 1) ≤ mostI nw
        omega
      · obtain rfl : (p + q) % (mostI nw + 1) = x := Option.some.inj hx
        exact key p q hp hq
    · cases hr
  · have hr : (if u.Lo ≥ v.Hi ∨ u.Hi < v.Lo then some (⟨(u.Lo - v.Hi) % (mostI nw + 1), (u.Hi - v.Lo) % (mostI nw + 1)⟩ : TSpan) else none) = some r := hr
    split at hr
    · rename_i hc
      obtain rfl := Option.some.inj hr
      have key : ∀ p q, Hs u p → Hs v q → (u.Lo - v.Hi) % (mostI nw + 1) ≤ (p - q) % (mostI nw + 1) ∧ (p - q) % (mostI nw + 1) ≤ (u.Hi - v.Lo) % (mostI nw + 1) :=
        fun p q hp hq => sub_key hM ⟨hu1, hu3, hv1, hv3⟩ hp hq hc
      refine ⟨⟨?_, (Int.le_trans (key u.Lo v.Hi ⟨Int.le_refl _, hu2⟩ ⟨hv2, Int.le_refl _⟩).2 (Int.le_refl _)), ?_⟩, fun p q x hp hq hx => ?_⟩
      · exact Int.emod_nonneg _ (by omega)
      · have := Int.emod_lt_of_pos (u.Hi - v.Lo) (show 0 < mostI nw + 1 by omega)
        show (u.Hi - v.Lo) % (mostI nw + 1) ≤ mostI nw
        omega
      · obtain rfl : (p - q) % (mostI nw + 1) = x := Option.some.inj hx
        exact key p q hp hq
    · cases hr
  · have hr : (if u.Hi * v.Hi ≤ mostI nw then some (⟨u.Lo * v.Lo, u.Hi * v.Hi⟩ : TSpan) else none) = some r := hr
    split at hr
    · rename_i hc
      obtain rfl := Option.some.inj hr
      have key : ∀ p q, Hs u p → Hs v q → u.Lo * v.Lo ≤ p * q ∧ p * q ≤ u.Hi * v.Hi := fun p q hp hq =>
        ⟨Int.mul_le_mul hp.1 hq.1 hv1 (by have := hp.1; omega), Int.mul_le_mul hp.2 hq.2 (by have := hq.1; omega) (by omega)⟩
      refine ⟨⟨Int.mul_nonneg hu1 hv1, (key u.Lo v.Lo ⟨Int.le_refl _, hu2⟩ ⟨Int.le_refl _, hv2⟩).2, hc⟩, fun p q x hp hq hx => ?_⟩
      obtain rfl : (p * q) % (mostI nw + 1) = x := Option.some.inj hx
      have := key p q hp hq
      have h0 : 0 ≤ u.Lo * v.Lo := Int.mul_nonneg hu1 hv1
      rw [Int.emod_eq_of_lt (by omega) (by omega)]
      exact this
    · cases hr
  · obtain rfl : (⟨u.Lo / max v.Hi 1, u.Hi / max v.Lo 1⟩ : TSpan) = r := Option.some.inj hr
    have h1 : 0 ≤ u.Lo / max v.Hi 1 := Int.ediv_nonneg hu1 (by omega)
    have h2 : u.Hi / max v.Lo 1 ≤ u.Hi := Int.ediv_le_self _ (by omega)
    refine ⟨⟨h1, div_le hu1 hu2 (by omega) (by omega), by show u.Hi / max v.Lo 1 ≤ _; omega⟩, fun p q x hp hq hx => ?_⟩
    have hx : (if q = 0 then none else some (p / q)) = some x := hx
    split at hx
    · cases hx
    · obtain rfl := Option.some.inj hx
      have := hp.1; have := hp.2; have := hq.1; have := hq.2
      exact ⟨div_le hu1 (by omega) (by omega) (by omega), div_le (by omega) (by omega) (by omega) (by omega)⟩
  · obtain rfl : (if u.Hi < max v.Lo 1 then u else (⟨0, min u.Hi (max v.Hi 1 - 1)⟩ : TSpan)) = r := Option.some.inj hr
    have hval : ∀ p q x, Hs u p → Hs v q → aluE nw 5 p q = some x → 0 ≤ x ∧ x ≤ p ∧ x < q ∧ (p < q → x = p) := by
      intro p q x hp hq hx
      have hx : (if q = 0 then none else some (p % q)) = some x := hx
      split at hx
      · cases hx
      · obtain rfl := Option.some.inj hx
        have h1 := hp.1; have h2 := hq.1
        have h3 := Int.emod_nonneg p (show q ≠ 0 by omega)
        have h4 := Int.emod_lt_of_pos p (show 0 < q by omega)
        have h5 : p % q ≤ p := by
          have := Int.emod_def p q
          have h6 : 0 ≤ q * (p / q) := Int.mul_nonneg (by omega) (Int.ediv_nonneg (by omega) (by omega))
          omega
        exact ⟨h3, h5, h4, fun h => Int.emod_eq_of_lt (by omega) h⟩
    split
    · rename_i hc
      refine ⟨hu, fun p q x hp hq hx => ?_⟩
      obtain ⟨h1, h2, h3, h4⟩ := hval p q x hp hq hx
      have := hp.2; have := hq.1
      rw [h4 (by omega)]; exact hp
    · refine ⟨⟨Int.le_refl _, by show (0 : Int) ≤ min u.Hi (max v.Hi 1 - 1); omega, by show min u.Hi (max v.Hi 1 - 1) ≤ _; omega⟩, fun p q x hp hq hx => ?_⟩
      obtain ⟨h1, h2, h3, h4⟩ := hval p q x hp hq hx
      have := hp.2; have := hq.2
      exact ⟨h1, by show x ≤ min u.Hi (max v.Hi 1 - 1); omega⟩
  · obtain rfl : (if u.Lo = u.Hi ∧ v.Lo = v.Hi then (⟨((u.Lo.toNat &&& v.Lo.toNat : Nat) : Int), ((u.Lo.toNat &&& v.Lo.toNat : Nat) : Int)⟩ : TSpan) else ⟨0, min u.Hi v.Hi⟩) = r := Option.some.inj hr
    have hle : ∀ a b : Nat, a &&& b ≤ a ∧ a &&& b ≤ b := fun a b => ⟨Nat.and_le_left, Nat.and_le_right⟩
    split
    · rename_i hc
      have h3 := hle u.Lo.toNat v.Lo.toNat
      refine ⟨⟨by show (0 : Int) ≤ ((_ : Nat) : Int); omega, Int.le_refl _, by show ((u.Lo.toNat &&& v.Lo.toNat : Nat) : Int) ≤ _; omega⟩, fun p q x hp hq hx => ?_⟩
      obtain rfl : ((p.toNat &&& q.toNat : Nat) : Int) = x := Option.some.inj hx
      have h1 : p = u.Lo := by have := hp.1; have := hp.2; omega
      have h2 : q = v.Lo := by have := hq.1; have := hq.2; omega
      subst h1; subst h2; exact ⟨Int.le_refl _, Int.le_refl _⟩
    · refine ⟨⟨Int.le_refl _, by show (0 : Int) ≤ min u.Hi v.Hi; omega, by show min u.Hi v.Hi ≤ _; omega⟩, fun p q x hp hq hx => ?_⟩
      obtain rfl : ((p.toNat &&& q.toNat : Nat) : Int) = x := Option.some.inj hx
      have h3 := hle p.toNat q.toNat
      have := hp.1; have := hp.2; have := hq.1; have := hq.2
      exact ⟨by show (0 : Int) ≤ ((_ : Nat) : Int); omega, by show ((p.toNat &&& q.toNat : Nat) : Int) ≤ min u.Hi v.Hi; omega⟩
  · obtain rfl : (if u.Lo = u.Hi ∧ v.Lo = v.Hi then (⟨((u.Lo.toNat ||| v.Lo.toNat : Nat) : Int), ((u.Lo.toNat ||| v.Lo.toNat : Nat) : Int)⟩ : TSpan) else ⟨max u.Lo v.Lo, fillI u.Hi v.Hi⟩) = r := Option.some.inj hr
    have hf := fillI_max (nw := nw) ⟨Int.le_trans hu1 hu2, hu3⟩ ⟨Int.le_trans hv1 hv2, hv3⟩
    split
    · rename_i hc
      have h3 := Nat.or_lt_two_pow (n := sizeN nw) (show u.Lo.toNat < _ by omega) (show v.Lo.toNat < _ by omega)
      refine ⟨⟨by show (0 : Int) ≤ ((_ : Nat) : Int); omega, Int.le_refl _, by show ((u.Lo.toNat ||| v.Lo.toNat : Nat) : Int) ≤ _; omega⟩, fun p q x hp hq hx => ?_⟩
      obtain rfl : ((p.toNat ||| q.toNat : Nat) : Int) = x := Option.some.inj hx
      have h1 : p = u.Lo := by have := hp.1; have := hp.2; omega
      have h2 : q = v.Lo := by have := hq.1; have := hq.2; omega
      subst h1; subst h2; exact ⟨Int.le_refl _, Int.le_refl _⟩
    · refine ⟨⟨by show (0 : Int) ≤ max u.Lo v.Lo; omega, by show max u.Lo v.Lo ≤ fillI u.Hi v.Hi; omega, hf.2⟩, fun p q x hp hq hx => ?_⟩
      obtain rfl : ((p.toNat ||| q.toNat : Nat) : Int) = x := Option.some.inj hx
      have h3 : p.toNat ≤ p.toNat ||| q.toNat := Nat.left_le_or
      have h4 : q.toNat ≤ p.toNat ||| q.toNat := Nat.right_le_or
      have := hp.1; have := hq.1
      exact ⟨by show max u.Lo v.Lo ≤ ((p.toNat ||| q.toNat : Nat) : Int); omega, fillI_ub hp.2 hq.2 fun k h1 h2 => Nat.or_lt_two_pow h1 h2⟩
  · obtain rfl : (if u.Lo = u.Hi ∧ v.Lo = v.Hi then (⟨((u.Lo.toNat ^^^ v.Lo.toNat : Nat) : Int), ((u.Lo.toNat ^^^ v.Lo.toNat : Nat) : Int)⟩ : TSpan) else ⟨0, fillI u.Hi v.Hi⟩) = r := Option.some.inj hr
    have hf := fillI_max (nw := nw) ⟨Int.le_trans hu1 hu2, hu3⟩ ⟨Int.le_trans hv1 hv2, hv3⟩
    split
    · rename_i hc
      have h3 := Nat.xor_lt_two_pow (n := sizeN nw) (show u.Lo.toNat < _ by omega) (show v.Lo.toNat < _ by omega)
      refine ⟨⟨by show (0 : Int) ≤ ((_ : Nat) : Int); omega, Int.le_refl _, by show ((u.Lo.toNat ^^^ v.Lo.toNat : Nat) : Int) ≤ _; omega⟩, fun p q x hp hq hx => ?_⟩
      obtain rfl : ((p.toNat ^^^ q.toNat : Nat) : Int) = x := Option.some.inj hx
      have h1 : p = u.Lo := by have := hp.1; have := hp.2; omega
      have h2 : q = v.Lo := by have := hq.1; have := hq.2; omega
      subst h1; subst h2; exact ⟨Int.le_refl _, Int.le_refl _⟩
    · refine ⟨⟨Int.le_refl _, by show (0 : Int) ≤ fillI u.Hi v.Hi; omega, hf.2⟩, fun p q x hp hq hx => ?_⟩
      obtain rfl : ((p.toNat ^^^ q.toNat : Nat) : Int) = x := Option.some.inj hx
      exact ⟨by show (0 : Int) ≤ ((_ : Nat) : Int); omega, fillI_ub hp.2 hq.2 fun k h1 h2 => Nat.xor_lt_two_pow h1 h2⟩
  · have hr : (if v.Lo = v.Hi ∧ u.Hi * 2 ^ shN nw v.Lo ≤ mostI nw then some (⟨u.Lo * 2 ^ shN nw v.Lo, u.Hi * 2 ^ shN nw v.Lo⟩ : TSpan) else none) = some r := hr
    split at hr
    · rename_i hc
      obtain rfl := Option.some.inj hr
      have hp2 := pow2_pos (shN nw v.Lo)
      refine ⟨⟨Int.mul_nonneg hu1 (by omega), Int.mul_le_mul_of_nonneg_right hu2 (by omega), hc.2⟩, fun p q x hp hq hx => ?_⟩
      obtain rfl : (p * 2 ^ shN nw q) % (mostI nw + 1) = x := Option.some.inj hx
      have h2 : q = v.Lo := by have := hq.1; have := hq.2; omega
      subst h2
      have h3 := Int.mul_le_mul_of_nonneg_right hp.1 (show (0 : Int) ≤ 2 ^ shN nw v.Lo by omega)
      have h4 := Int.mul_le_mul_of_nonneg_right hp.2 (show (0 : Int) ≤ 2 ^ shN nw v.Lo by omega)
      have h5 : 0 ≤ u.Lo * 2 ^ shN nw v.Lo := Int.mul_nonneg hu1 (by omega)
      rw [Int.emod_eq_of_lt (by omega) (by omega)]
      exact ⟨h3, h4⟩
    · cases hr
  · obtain rfl : (if v.Lo = v.Hi then (⟨u.Lo / 2 ^ shN nw v.Lo, u.Hi / 2 ^ shN nw v.Lo⟩ : TSpan) else if v.Hi ≥ sizeN nw then ⟨0, u.Hi⟩ else ⟨u.Lo / 2 ^ v.Hi.toNat, u.Hi / 2 ^ v.Lo.toNat⟩) = r := Option.some.inj hr
    have hdv : ∀ (a : Int) (k : Nat), 0 ≤ a → 0 ≤ a / 2 ^ k ∧ a / 2 ^ k ≤ a := fun a k ha => ⟨Int.ediv_nonneg ha (Int.le_of_lt (pow2_pos _)), Int.ediv_le_self _ ha⟩
    split
    · have h1 := hdv u.Lo (shN nw v.Lo) hu1; have h2 := hdv u.Hi (shN nw v.Lo) (by omega)
      refine ⟨⟨h1.1, Int.ediv_le_ediv (pow2_pos _) hu2, by show u.Hi / 2 ^ shN nw v.Lo ≤ _; omega⟩, fun p q x hp hq hx => ?_⟩
      obtain rfl : p / 2 ^ shN nw q = x := Option.some.inj hx
      have h2 : q = v.Lo := by have := hq.1; have := hq.2; omega
      subst h2
      exact ⟨Int.ediv_le_ediv (pow2_pos _) hp.1, Int.ediv_le_ediv (pow2_pos _) hp.2⟩
    · split
      · refine ⟨⟨Int.le_refl _, by show (0 : Int) ≤ u.Hi; omega, hu3⟩, fun p q x hp hq hx => ?_⟩
        obtain rfl : p / 2 ^ shN nw q = x := Option.some.inj hx
        have := hdv p (shN nw q) (by have := hp.1; omega)
        have := hp.2
        exact ⟨by show (0 : Int) ≤ p / 2 ^ shN nw q; omega, by show p / 2 ^ shN nw q ≤ u.Hi; omega⟩
      · have h1 := hdv u.Lo v.Hi.toNat hu1; have h2 := hdv u.Hi v.Lo.toNat (by omega)
        refine ⟨⟨h1.1, div_le hu1 hu2 (pow2_pos _) (pow2_le (by omega)), by show u.Hi / 2 ^ v.Lo.toNat ≤ _; omega⟩, fun p q x hp hq hx => ?_⟩
        obtain rfl : p / 2 ^ shN nw q = x := Option.some.inj hx
        have hq1 := hq.1; have hq2 := hq.2
        have hs : shN nw q = q.toNat := by unfold shN; rw [Int.emod_eq_of_lt (by omega) (by omega)]
        rw [hs]
        exact ⟨div_le hu1 hp.1 (pow2_pos _) (pow2_le (by omega)), div_le (by have := hp.1; omega) hp.2 (pow2_pos _) (pow2_le (by omega))⟩
  · have hr : (if v.Lo = v.Hi ∧ (mostI nw < 2 * u.Lo ↔ mostI nw < 2 * u.Hi) then some (⟨sarI nw u.Lo (shN nw v.Lo), sarI nw u.Hi (shN nw v.Lo)⟩ : TSpan) else none) = some r := hr
    split at hr
    · rename_i hc
      obtain rfl := Option.some.inj hr
      have hlt := shN_lt nw v.Lo
      refine ⟨⟨(sarI_rng ⟨hu1, by omega⟩ hlt).1, sarI_mono ⟨hu1, hu2⟩ hu3 hlt hc.2, (sarI_rng ⟨by omega, hu3⟩ hlt).2⟩, fun p q x hp hq hx => ?_⟩
      obtain rfl : sarI nw p (shN nw q) = x := Option.some.inj hx
      have h2 : q = v.Lo := by have := hq.1; have := hq.2; omega
      subst h2
      have hp1 := hp.1; have hp2 := hp.2
      exact ⟨sarI_mono ⟨hu1, hp1⟩ (by omega) hlt (by omega), sarI_mono ⟨by omega, hp2⟩ hu3 hlt (by omega)⟩
    · cases hr
  · obtain rfl : v = r := Option.some.inj hr
    refine ⟨hv, fun p q x hp hq hx => ?_⟩
    obtain rfl : q = x := Option.some.inj hx
    exact hq
  · have hr : (if u.Hi = 0 then some u else if u.Lo > 0 then some (⟨(0 - u.Hi) % (mostI nw + 1), (0 - u.Lo) % (mostI nw + 1)⟩ : TSpan) else none) = some r := hr
    have hval : ∀ p q x, aluE nw 13 p q = some x → x = (0 - p) % (mostI nw + 1) := fun p q x hx => (Option.some.inj hx).symm
    split at hr
    · rename_i hc
      obtain rfl := Option.some.inj hr
      refine ⟨hu, fun p q x hp hq hx => ?_⟩
      have h1 : p = 0 := by have := hp.1; have := hp.2; omega
      rw [hval p q x hx, h1, show (0 : Int) - 0 = 0 from rfl, Int.zero_emod]
      exact ⟨by omega, by omega⟩
    · split at hr
      · rename_i hc hc2
        obtain rfl := Option.some.inj hr
        have key : ∀ p, Hs u p → (0 - u.Hi) % (mostI nw + 1) ≤ (0 - p) % (mostI nw + 1) ∧ (0 - p) % (mostI nw + 1) ≤ (0 - u.Lo) % (mostI nw + 1) ∧ 0 ≤ (0 - p) % (mostI nw + 1) ∧ (0 - p) % (mostI nw + 1) ≤ mostI nw :=
          fun p hp => neg_key hM ⟨hc2, hu3⟩ hp
        refine ⟨⟨(key u.Hi ⟨hu2, Int.le_refl _⟩).2.2.1, (key u.Hi ⟨hu2, Int.le_refl _⟩).2.1, (key u.Lo ⟨Int.le_refl _, hu2⟩).2.2.2⟩, fun p q x hp hq hx => ?_⟩
        rw [hval p q x hx]
        exact ⟨(key p hp).1, (key p hp).2.1⟩
      · cases hr
theorem rules_mono {nw : Bool} {op : Int} (hop : 1 ≤ op ∧ op ≤ 13) {u v s t r : TSpan} (hu : SpOk nw u) (hv : SpOk nw v) (hs : SpOk nw s) (ht : SpOk nw t) (hsu : Wi s u) (htv : Wi t v) (hr : rulesE nw op u v = some r) :
    ∃ q, rulesE nw op s t = some q ∧ Wi q r := by
  have hu1 := hu.lo; have hu2 := hu.le; have hu3 := hu.hi
  have hv1 := hv.lo; have hv2 := hv.le; have hv3 := hv.hi
  have hs1 := hs.lo; have hs2 := hs.le; have hs3 := hs.hi
  have ht1 := ht.lo; have ht2 := ht.le; have ht3 := ht.hi
  have a1 := hsu.1; have a2 := hsu.2; have a3 := htv.1; have a4 := htv.2
  have hm := mostI_u nw
  have hmp := most_pow nw
  have e : (2 : Int) ^ sizeN nw = ((2 ^ sizeN nw : Nat) : Int) := by simp
  have hh : op = 1 ∨ op = 2 ∨ op = 3 ∨ op = 4 ∨ op = 5 ∨ op = 6 ∨ op = 7 ∨ op = 8 ∨ op = 9 ∨ op = 10 ∨ op = 11 ∨ op = 12 ∨ op = 13 := by omega
  have hM := mostI_or nw
  rcases hh with rfl | rfl | rfl | rfl | rfl | rfl | rfl | rfl | rfl | rfl | rfl | rfl | rfl
  · have hr : (if v.Hi ≤ mostI nw - u.Hi ∨ v.Lo > mostI nw - u.Lo then some (⟨(u.Lo + v.Lo) % (mostI nw + 1), (u.Hi + v.Hi) % (mostI nw + 1)⟩ : TSpan) else none) = some r := hr
    split at hr
    · rename_i hc
      obtain rfl := Option.some.inj hr
      refine ⟨_, if_pos (show t.Hi ≤ mostI nw - s.Hi ∨ t.Lo > mostI nw - s.Lo by omega), ?_⟩
      exact ⟨(add_key hM ⟨hu1, hu3, hv1, hv3⟩ ⟨a1, by omega⟩ ⟨a3, by omega⟩ hc).1, (add_key hM ⟨hu1, hu3, hv1, hv3⟩ ⟨by omega, a2⟩ ⟨by omega, a4⟩ hc).2⟩
    · cases hr
  · have hr : (if u.Lo ≥ v.Hi ∨ u.Hi < v.Lo then some (⟨(u.Lo - v.Hi) % (mostI nw + 1), (u.Hi - v.Lo) % (mostI nw + 1)⟩ : TSpan) else none) = some r := hr
    split at hr
    · rename_i hc
      obtain rfl := Option.some.inj hr
      refine ⟨_, if_pos (show s.Lo ≥ t.Hi ∨ s.Hi < t.Lo by omega), ?_⟩
      exact ⟨(sub_key hM ⟨hu1, hu3, hv1, hv3⟩ ⟨a1, by omega⟩ ⟨by omega, a4⟩ hc).1, (sub_key hM ⟨hu1, hu3, hv1, hv3⟩ ⟨by omega, a2⟩ ⟨a3, by omega⟩ hc).2⟩
    · cases hr
  · have hr : (if u.Hi * v.Hi ≤ mostI nw then some (⟨u.Lo * v.Lo, u.Hi * v.Hi⟩ : TSpan) else none) = some r := hr
    split at hr
    · rename_i hc
      obtain rfl := Option.some.inj hr
      have h1 : s.Hi * t.Hi ≤ u.Hi * v.Hi := Int.mul_le_mul a2 a4 (by omega) (by omega)
      have h2 : u.Lo * v.Lo ≤ s.Lo * t.Lo := Int.mul_le_mul a1 a3 hv1 hs1
      exact ⟨_, if_pos (show s.Hi * t.Hi ≤ mostI nw by omega), h2, h1⟩
    · cases hr
  · obtain rfl : (⟨u.Lo / max v.Hi 1, u.Hi / max v.Lo 1⟩ : TSpan) = r := Option.some.inj hr
    exact ⟨_, rfl, div_le hu1 a1 (by omega) (by omega), div_le (by omega) a2 (by omega) (by omega)⟩
  · obtain rfl : (if u.Hi < max v.Lo 1 then u else (⟨0, min u.Hi (max v.Hi 1 - 1)⟩ : TSpan)) = r := Option.some.inj hr
    refine ⟨_, rfl, ?_⟩
    show Wi (if s.Hi < max t.Lo 1 then s else (⟨0, min s.Hi (max t.Hi 1 - 1)⟩ : TSpan)) _
    by_cases h1 : u.Hi < max v.Lo 1
    · rw [if_pos h1, if_pos (by omega)]; exact hsu
    · rw [if_neg h1]
      split
      · exact ⟨hs1, by show s.Hi ≤ min u.Hi (max v.Hi 1 - 1); omega⟩
      · exact ⟨Int.le_refl _, by show min s.Hi (max t.Hi 1 - 1) ≤ min u.Hi (max v.Hi 1 - 1); omega⟩
  · obtain rfl : (if u.Lo = u.Hi ∧ v.Lo = v.Hi then (⟨((u.Lo.toNat &&& v.Lo.toNat : Nat) : Int), ((u.Lo.toNat &&& v.Lo.toNat : Nat) : Int)⟩ : TSpan) else ⟨0, min u.Hi v.Hi⟩) = r := Option.some.inj hr
    refine ⟨_, rfl, ?_⟩
    show Wi (if s.Lo = s.Hi ∧ t.Lo = t.Hi then (⟨((s.Lo.toNat &&& t.Lo.toNat : Nat) : Int), ((s.Lo.toNat &&& t.Lo.toNat : Nat) : Int)⟩ : TSpan) else ⟨0, min s.Hi t.Hi⟩) _
    by_cases h1 : u.Lo = u.Hi ∧ v.Lo = v.Hi
    · rw [if_pos h1, if_pos (by omega), show s.Lo = u.Lo by omega, show t.Lo = v.Lo by omega]; exact ⟨Int.le_refl _, Int.le_refl _⟩
    · rw [if_neg h1]
      split
      · have h3 : s.Lo.toNat &&& t.Lo.toNat ≤ s.Lo.toNat := Nat.and_le_left
        have h4 : s.Lo.toNat &&& t.Lo.toNat ≤ t.Lo.toNat := Nat.and_le_right
        exact ⟨by show (0 : Int) ≤ ((_ : Nat) : Int); omega, by show ((s.Lo.toNat &&& t.Lo.toNat : Nat) : Int) ≤ min u.Hi v.Hi; omega⟩
      · exact ⟨Int.le_refl _, by show min s.Hi t.Hi ≤ min u.Hi v.Hi; omega⟩
  · obtain rfl : (if u.Lo = u.Hi ∧ v.Lo = v.Hi then (⟨((u.Lo.toNat ||| v.Lo.toNat : Nat) : Int), ((u.Lo.toNat ||| v.Lo.toNat : Nat) : Int)⟩ : TSpan) else ⟨max u.Lo v.Lo, fillI u.Hi v.Hi⟩) = r := Option.some.inj hr
    refine ⟨_, rfl, ?_⟩
    show Wi (if s.Lo = s.Hi ∧ t.Lo = t.Hi then (⟨((s.Lo.toNat ||| t.Lo.toNat : Nat) : Int), ((s.Lo.toNat ||| t.Lo.toNat : Nat) : Int)⟩ : TSpan) else ⟨max s.Lo t.Lo, fillI s.Hi t.Hi⟩) _
    by_cases h1 : u.Lo = u.Hi ∧ v.Lo = v.Hi
    · rw [if_pos h1, if_pos (by omega), show s.Lo = u.Lo by omega, show t.Lo = v.Lo by omega]; exact ⟨Int.le_refl _, Int.le_refl _⟩
    · rw [if_neg h1]
      split
      · have h3 : s.Lo.toNat ≤ s.Lo.toNat ||| t.Lo.toNat := Nat.left_le_or
        have h4 : t.Lo.toNat ≤ s.Lo.toNat ||| t.Lo.toNat := Nat.right_le_or
        exact ⟨by show max u.Lo v.Lo ≤ ((_ : Nat) : Int); omega, fillI_ub (by omega : s.Lo ≤ u.Hi) (by omega : t.Lo ≤ v.Hi) fun k h1 h2 => Nat.or_lt_two_pow h1 h2⟩
      · exact ⟨by show max u.Lo v.Lo ≤ max s.Lo t.Lo; omega, fillI_mono a2 a4⟩
  · obtain rfl : (if u.Lo = u.Hi ∧ v.Lo = v.Hi then (⟨((u.Lo.toNat ^^^ v.Lo.toNat : Nat) : Int), ((u.Lo.toNat ^^^ v.Lo.toNat : Nat) : Int)⟩ : TSpan) else ⟨0, fillI u.Hi v.Hi⟩) = r := Option.some.inj hr
    refine ⟨_, rfl, ?_⟩
    show Wi (if s.Lo = s.Hi ∧ t.Lo = t.Hi then (⟨((s.Lo.toNat ^^^ t.Lo.toNat : Nat) : Int), ((s.Lo.toNat ^^^ t.Lo.toNat : Nat) : Int)⟩ : TSpan) else ⟨0, fillI s.Hi t.Hi⟩) _
    by_cases h1 : u.Lo = u.Hi ∧ v.Lo = v.Hi
    · rw [if_pos h1, if_pos (by omega), show s.Lo = u.Lo by omega, show t.Lo = v.Lo by omega]; exact ⟨Int.le_refl _, Int.le_refl _⟩
    · rw [if_neg h1]
      split
      · exact ⟨by show (0 : Int) ≤ ((_ : Nat) : Int); omega, fillI_ub (by omega : s.Lo ≤ u.Hi) (by omega : t.Lo ≤ v.Hi) fun k h1 h2 => Nat.xor_lt_two_pow h1 h2⟩
      · exact ⟨Int.le_refl _, fillI_mono a2 a4⟩
  · have hr : (if v.Lo = v.Hi ∧ u.Hi * 2 ^ shN nw v.Lo ≤ mostI nw then some (⟨u.Lo * 2 ^ shN nw v.Lo, u.Hi * 2 ^ shN nw v.Lo⟩ : TSpan) else none) = some r := hr
    split at hr
    · rename_i hc
      obtain rfl := Option.some.inj hr
      have hp2 := pow2_pos (shN nw v.Lo)
      have h1 : t.Lo = v.Lo := by omega
      have h2 : t.Lo = t.Hi := by omega
      have h3 := Int.mul_le_mul_of_nonneg_right a1 (show (0 : Int) ≤ 2 ^ shN nw v.Lo by omega)
      have h4 := Int.mul_le_mul_of_nonneg_right a2 (show (0 : Int) ≤ 2 ^ shN nw v.Lo by omega)
      refine ⟨_, if_pos (show t.Lo = t.Hi ∧ s.Hi * 2 ^ shN nw t.Lo ≤ mostI nw from ⟨h2, by rw [h1]; omega⟩), ?_⟩
      rw [h1]
      exact ⟨h3, h4⟩
    · cases hr
  · obtain rfl : (if v.Lo = v.Hi then (⟨u.Lo / 2 ^ shN nw v.Lo, u.Hi / 2 ^ shN nw v.Lo⟩ : TSpan) else if v.Hi ≥ sizeN nw then ⟨0, u.Hi⟩ else ⟨u.Lo / 2 ^ v.Hi.toNat, u.Hi / 2 ^ v.Lo.toNat⟩) = r := Option.some.inj hr
    have hdv : ∀ (a : Int) (k : Nat), 0 ≤ a → 0 ≤ a / 2 ^ k ∧ a / 2 ^ k ≤ a := fun a k ha => ⟨Int.ediv_nonneg ha (Int.le_of_lt (pow2_pos _)), Int.ediv_le_self _ ha⟩
    refine ⟨_, rfl, ?_⟩
    show Wi (if t.Lo = t.Hi then (⟨s.Lo / 2 ^ shN nw t.Lo, s.Hi / 2 ^ shN nw t.Lo⟩ : TSpan) else if t.Hi ≥ sizeN nw then ⟨0, s.Hi⟩ else ⟨s.Lo / 2 ^ t.Hi.toNat, s.Hi / 2 ^ t.Lo.toNat⟩) _
    by_cases h1 : v.Lo = v.Hi
    · rw [if_pos h1, if_pos (by omega), show t.Lo = v.Lo by omega]
      exact ⟨Int.ediv_le_ediv (pow2_pos _) a1, Int.ediv_le_ediv (pow2_pos _) a2⟩
    · rw [if_neg h1]
      by_cases h2 : v.Hi ≥ sizeN nw
      · rw [if_pos h2]
        have b1 := hdv s.Lo (shN nw t.Lo) hs1; have b2 := hdv s.Hi (shN nw t.Lo) (by omega)
        have b3 := hdv s.Lo t.Hi.toNat hs1; have b4 := hdv s.Hi t.Lo.toNat (by omega)
        split
        · exact ⟨b1.1, by show s.Hi / 2 ^ shN nw t.Lo ≤ u.Hi; omega⟩
        · split
          · exact ⟨Int.le_refl _, a2⟩
          · exact ⟨b3.1, by show s.Hi / 2 ^ t.Lo.toNat ≤ u.Hi; omega⟩
      · rw [if_neg h2]
        split
        · have hsh : shN nw t.Lo = t.Lo.toNat := by unfold shN; rw [Int.emod_eq_of_lt (by omega) (by omega)]
          rw [hsh]
          exact ⟨div_le hu1 a1 (pow2_pos _) (pow2_le (by omega)), div_le (by omega) a2 (pow2_pos _) (pow2_le (by omega))⟩
        · rw [if_neg (by omega)]
          exact ⟨div_le hu1 a1 (pow2_pos _) (pow2_le (by omega)), div_le (by omega) a2 (pow2_pos _) (pow2_le (by omega))⟩
  · have hr : (if v.Lo = v.Hi ∧ (mostI nw < 2 * u.Lo ↔ mostI nw < 2 * u.Hi) then some (⟨sarI nw u.Lo (shN nw v.Lo), sarI nw u.Hi (shN nw v.Lo)⟩ : TSpan) else none) = some r := hr
    split at hr
    · rename_i hc
      obtain rfl := Option.some.inj hr
      have hlt := shN_lt nw v.Lo
      have h1 : t.Lo = v.Lo := by omega
      refine ⟨_, if_pos (show t.Lo = t.Hi ∧ (mostI nw < 2 * s.Lo ↔ mostI nw < 2 * s.Hi) by omega), ?_⟩
      rw [h1]
      exact ⟨sarI_mono ⟨hu1, a1⟩ (by omega) hlt (by omega), sarI_mono ⟨by omega, a2⟩ hu3 hlt (by omega)⟩
    · cases hr
  · obtain rfl : v = r := Option.some.inj hr
    exact ⟨t, rfl, htv⟩
  · have hr : (if u.Hi = 0 then some u else if u.Lo > 0 then some (⟨(0 - u.Hi) % (mostI nw + 1), (0 - u.Lo) % (mostI nw + 1)⟩ : TSpan) else none) = some r := hr
    split at hr
    · obtain rfl := Option.some.inj hr
      exact ⟨s, if_pos (show s.Hi = 0 by omega), hsu⟩
    · split at hr
      · rename_i hc hc2
        obtain rfl := Option.some.inj hr
        have h1 : ¬ s.Hi = 0 := by omega
        have h2 : s.Lo > 0 := by omega
        refine ⟨_, (if_neg h1).trans (if_pos h2), (neg_key hM ⟨hc2, hu3⟩ ⟨by omega, a2⟩).1, (neg_key hM ⟨hc2, hu3⟩ ⟨a1, by omega⟩).2.1⟩
      · cases hr
/-! ### of spans as they came -/
theorem cut_has {s : TSpan} {nw : Bool} {p : Int} (h : IU64 s.Lo ∧ IU64 s.Hi) (hp : Hs s p) : Hs (span_cut s nw) (cutN nw p) := by
  cases nw with
  | false => exact hp
  | true =>
    have h1 := hp.1; have h2 := hp.2
    unfold span_cut
    simp only [Bool.not_true, Bool.false_eq_true, if_false, shr32, and_low h.1, and_low h.2]
    show Hs _ (p % 4294967296)
    split
    · exact ⟨by show (0 : Int) ≤ _; omega, by show p % 4294967296 ≤ (4294967295 : Int); omega⟩
    · rename_i hq
      have hq : s.Lo / 4294967296 = s.Hi / 4294967296 := by simpa using hq
      exact ⟨by show s.Lo % 4294967296 ≤ _; omega, by show _ ≤ s.Hi % 4294967296; omega⟩
theorem cut_within {s t : TSpan} {nw : Bool} (hs : IU64 s.Lo ∧ IU64 s.Hi) (ht : IU64 t.Lo ∧ IU64 t.Hi) (hle : s.Lo ≤ s.Hi) (h : Wi s t) : Wi (span_cut s nw) (span_cut t nw) := by
  cases nw with
  | false => exact h
  | true =>
    have h1 := h.1; have h2 := h.2
    unfold span_cut
    simp only [Bool.not_true, Bool.false_eq_true, if_false, shr32, and_low hs.1, and_low hs.2, and_low ht.1, and_low ht.2, bne_iff_ne, ne_eq]
    split <;> split
    · exact ⟨Int.le_refl _, Int.le_refl _⟩
    · omega
    · exact ⟨by show (0 : Int) ≤ s.Lo % 4294967296; omega, by show s.Hi % 4294967296 ≤ (4294967295 : Int); omega⟩
    · exact ⟨by show t.Lo % 4294967296 ≤ s.Lo % 4294967296; omega, by show s.Hi % 4294967296 ≤ t.Hi % 4294967296; omega⟩
theorem Do_sound {op : Int} (hop : 1 ≤ op ∧ op ≤ 13) {nw : Bool} {a b : TSpan} (ha : IU64 a.Lo ∧ IU64 a.Hi) (hb : IU64 b.Lo ∧ IU64 b.Hi) (hla : a.Lo ≤ a.Hi) (hlb : b.Lo ≤ b.Hi) :
    SpOk nw (span_Do op nw a b) ∧ ∀ p q, IU64 p → IU64 q → Hs a p → Hs b q → (alu_Do op nw p q).2 = 0 → Hs (span_Do op nw a b) (alu_Do op nw p q).1 := by
  have hu := cut_ok (nw := nw) ha hla
  have hv := cut_ok (nw := nw) hb hlb
  rw [span_Do_eq, if_pos ⟨hop, hla, hlb⟩, rulesE_eq hop hu hv]
  have hal : ∀ p q, IU64 p → IU64 q → (alu_Do op nw p q).2 = 0 → aluE nw op (cutN nw p) (cutN nw q) = some (alu_Do op nw p q).1 := by
    intro p q hp hq h
    rw [alu_Do_eq hop hp hq] at h ⊢
    cases hx : aluE nw op (cutN nw p) (cutN nw q) with
    | none => rw [hx] at h; exact absurd h (by decide)
    | some x => rfl
  cases hr : rulesE nw op (span_cut a nw) (span_cut b nw) with
  | none =>
    refine ⟨⟨Int.le_refl _, (mostI_u nw).1, Int.le_refl _⟩, fun p q hp hq _ _ h => ?_⟩
    exact aluE_rng hop (cutN_ok hp) (cutN_ok hq) (hal p q hp hq h)
  | some r =>
    obtain ⟨h1, h2⟩ := rules_sound hop hu hv hr
    exact ⟨h1, fun p q hp hq hap hbq h => h2 _ _ _ (cut_has ha hap) (cut_has hb hbq) (hal p q hp hq h)⟩
theorem Do_mono {op : Int} (hop : 1 ≤ op ∧ op ≤ 13) {nw : Bool} {a b s t : TSpan} (ha : IU64 a.Lo ∧ IU64 a.Hi) (hb : IU64 b.Lo ∧ IU64 b.Hi) (hla : a.Lo ≤ a.Hi) (hlb : b.Lo ≤ b.Hi)
    (hs : IU64 s.Lo ∧ IU64 s.Hi) (ht : IU64 t.Lo ∧ IU64 t.Hi) (hls : s.Lo ≤ s.Hi) (hlt : t.Lo ≤ t.Hi) (hsa : Wi s a) (htb : Wi t b) : Wi (span_Do op nw s t) (span_Do op nw a b) := by
  have hu := cut_ok (nw := nw) ha hla
  have hv := cut_ok (nw := nw) hb hlb
  have hu' := cut_ok (nw := nw) hs hls
  have hv' := cut_ok (nw := nw) ht hlt
  have hok := (Do_sound hop (nw := nw) hs ht hls hlt).1
  rw [span_Do_eq op nw a b, if_pos ⟨hop, hla, hlb⟩, rulesE_eq hop hu hv]
  cases hr : rulesE nw op (span_cut a nw) (span_cut b nw) with
  | none => exact ⟨hok.lo, hok.hi⟩
  | some r =>
    obtain ⟨q, h1, h2⟩ := rules_mono hop hu hv hu' hv' (cut_within hs ha hls hsa) (cut_within ht hb hlt htb) hr
    rw [span_Do_eq, if_pos ⟨hop, hls, hlt⟩, rulesE_eq hop hu' hv', h1]
    exact h2
end Go.V
