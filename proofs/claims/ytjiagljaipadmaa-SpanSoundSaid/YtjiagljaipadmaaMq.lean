import Derived.Test.YtjiagljaipadmaaMo
import Derived.Test.YtjiagljaipadmaaSw
import Derived.Test.YtjiagljaipadmaaAi
namespace Go.V
open Go.RowKit Go.Proofs
/-! ### Questions -/
def negB (nw : Bool) (p : Int) : Bool := decide (mostI nw < 2 * p)
def sgn (nw : Bool) (p : Int) : Int := if mostI nw < 2 * p then p - (mostI nw + 1) else p
def isE (nw : Bool) (op p q : Int) : Bool :=
  if op = 17 then decide (p = q) else if op = 18 then decide (p ≠ q) else if op = 19 then decide (p > q) else if op = 20 then decide (p ≥ q) else if op = 21 then decide (p < q) else if op = 22 then decide (p ≤ q)
  else if op = 23 then decide (sgn nw p > sgn nw q) else if op = 24 then decide (sgn nw p ≥ sgn nw q) else if op = 25 then decide (sgn nw p < sgn nw q) else if op = 26 then decide (sgn nw p ≤ sgn nw q) else decide (p.toNat &&& q.toNat ≠ 0)
theorem alu_Is_eq {op : Int} (hop : 17 ≤ op ∧ op ≤ 27) {nw : Bool} {p q : Int} (hp : IU64 p) (hq : IU64 q) : alu_Is op nw p q = (isE nw op (cutN nw p) (cutN nw q), 0) := by
  have hh : op = 17 ∨ op = 18 ∨ op = 19 ∨ op = 20 ∨ op = 21 ∨ op = 22 ∨ op = 23 ∨ op = 24 ∨ op = 25 ∨ op = 26 ∨ op = 27 := by omega
  have bq : ∀ a b : Int, (a == b) = decide (a = b) := fun a b => by rw [Bool.eq_iff_iff]; simp
  have bn : ∀ a b : Int, (a != b) = decide (a ≠ b) := fun a b => by rw [Bool.eq_iff_iff]; simp
  cases nw with
  | true =>
    show alu_is_u32 op (IntKind.u32.wrap p) (IntKind.u32.wrap q) = (isE true op (p % 4294967296) (q % 4294967296), 0)
    rw [wrapU32_eq, wrapU32_eq]
    have hx : IU32 (p % 4294967296) := by omega
    have hy : IU32 (q % 4294967296) := by omega
    generalize p % 4294967296 = x at *
    generalize q % 4294967296 = y at *
    have w : ∀ z : Int, IU32 z → IntKind.i32.wrap z = sgn true z := by
      intro z hz
      rw [wrapI32_eq]; unfold sgn
      rw [show mostI true = 4294967295 from rfl]
      split <;> split <;> omega
    rcases hh with rfl | rfl | rfl | rfl | rfl | rfl | rfl | rfl | rfl | rfl | rfl
    · show ((x == y), (0 : Int)) = (decide (x = y), 0); rw [bq]
    · show ((x != y), (0 : Int)) = (decide (x ≠ y), 0); rw [bn]
    · rfl
    · rfl
    · rfl
    · rfl
    · show (decide (IntKind.i32.wrap x > IntKind.i32.wrap y), (0 : Int)) = (decide (sgn true x > sgn true y), 0); rw [w x hx, w y hy]
    · show (decide (IntKind.i32.wrap x ≥ IntKind.i32.wrap y), (0 : Int)) = (decide (sgn true x ≥ sgn true y), 0); rw [w x hx, w y hy]
    · show (decide (IntKind.i32.wrap x < IntKind.i32.wrap y), (0 : Int)) = (decide (sgn true x < sgn true y), 0); rw [w x hx, w y hy]
    · show (decide (IntKind.i32.wrap x ≤ IntKind.i32.wrap y), (0 : Int)) = (decide (sgn true x ≤ sgn true y), 0); rw [w x hx, w y hy]
    · show ((bAnd .u32 x y != 0), (0 : Int)) = (decide (x.toNat &&& y.toNat ≠ 0), 0)
      rw [bn, bAnd32 hx hy]
      congr 1
      rw [Bool.eq_iff_iff, decide_eq_true_eq, decide_eq_true_eq]
      omega
  | false =>
    show alu_is_u64 op p q = (isE false op p q, 0)
    have hx := hp; have hy := hq
    have w : ∀ z : Int, IU64 z → IntKind.i64.wrap z = sgn false z := by
      intro z hz
      rw [wrapI64_eq]; unfold sgn
      rw [show mostI false = 18446744073709551615 from rfl]
      split <;> split <;> omega
    rcases hh with rfl | rfl | rfl | rfl | rfl | rfl | rfl | rfl | rfl | rfl | rfl
    · show ((p == q), (0 : Int)) = (decide (p = q), 0); rw [bq]
    · show ((p != q), (0 : Int)) = (decide (p ≠ q), 0); rw [bn]
    · rfl
    · rfl
    · rfl
    · rfl
    · show (decide (IntKind.i64.wrap p > IntKind.i64.wrap q), (0 : Int)) = (decide (sgn false p > sgn false q), 0); rw [w p hx, w q hy]
    · show (decide (IntKind.i64.wrap p ≥ IntKind.i64.wrap q), (0 : Int)) = (decide (sgn false p ≥ sgn false q), 0); rw [w p hx, w q hy]
    · show (decide (IntKind.i64.wrap p < IntKind.i64.wrap q), (0 : Int)) = (decide (sgn false p < sgn false q), 0); rw [w p hx, w q hy]
    · show (decide (IntKind.i64.wrap p ≤ IntKind.i64.wrap q), (0 : Int)) = (decide (sgn false p ≤ sgn false q), 0); rw [w p hx, w q hy]
    · show ((bAnd .u64 p q != 0), (0 : Int)) = (decide (p.toNat &&& q.toNat ≠ 0), 0)
      rw [bn, bAnd64 hx hy]
      congr 1
      rw [Bool.eq_iff_iff, decide_eq_true_eq, decide_eq_true_eq]
      omega
def woE (s n : TSpan) : TSpan := if s.Lo = s.Hi ∨ n.Lo ≠ n.Hi then s else ⟨if s.Lo = n.Lo then s.Lo + 1 else s.Lo, if s.Hi = n.Lo then s.Hi - 1 else s.Hi⟩
def gtE (u v : TSpan) : Option (TSpan × TSpan) := if u.Hi > v.Lo then some (⟨max u.Lo (v.Lo + 1), u.Hi⟩, ⟨v.Lo, min v.Hi (u.Hi - 1)⟩) else none
def geE (u v : TSpan) : Option (TSpan × TSpan) := if u.Hi ≥ v.Lo then some (⟨max u.Lo v.Lo, u.Hi⟩, ⟨v.Lo, min v.Hi u.Hi⟩) else none
def swapE (o : Option (TSpan × TSpan)) : Option (TSpan × TSpan) := o.map fun x => (x.2, x.1)
def plainE (op : Int) (u v : TSpan) : Option (TSpan × TSpan) :=
  if op = 17 then (if max u.Lo v.Lo ≤ min u.Hi v.Hi then some (⟨max u.Lo v.Lo, min u.Hi v.Hi⟩, ⟨max u.Lo v.Lo, min u.Hi v.Hi⟩) else none)
  else if op = 18 then (if u.Lo = u.Hi ∧ v.Lo = v.Hi ∧ u.Lo = v.Lo then none else some (woE u v, woE v u))
  else if op = 19 then gtE u v else if op = 20 then geE u v else if op = 21 then swapE (gtE v u) else swapE (geE v u)
def signedE (nw : Bool) (op : Int) (u v : TSpan) : Option (TSpan × TSpan) :=
  if negB nw u.Lo ≠ negB nw u.Hi ∨ negB nw v.Lo ≠ negB nw v.Hi then some (u, v)
  else if negB nw u.Lo = negB nw v.Lo then plainE (op - 4) u v
  else if (op = 23 ∨ op = 24) ↔ negB nw v.Lo = true then some (u, v) else none
def setE (yes : Bool) (u v : TSpan) : Option (TSpan × TSpan) :=
  if yes = false then (if u.Lo = u.Hi ∧ v.Lo = v.Hi ∧ u.Lo.toNat &&& v.Lo.toNat ≠ 0 then none else some (u, v))
  else if u.Hi > 0 ∧ v.Hi > 0 ∧ ¬ (u.Lo = u.Hi ∧ v.Lo = v.Hi ∧ u.Lo.toNat &&& v.Lo.toNat = 0) then some (⟨max u.Lo 1, u.Hi⟩, ⟨max v.Lo 1, v.Hi⟩) else none
def oppE (op : Int) : Int := if op = 17 then 18 else if op = 18 then 17 else if op = 19 then 22 else if op = 20 then 21 else if op = 21 then 20 else if op = 22 then 19 else if op = 23 then 26 else if op = 24 then 25 else if op = 25 then 24 else 23
def askE (nw : Bool) (op : Int) (yes : Bool) (u v : TSpan) : Option (TSpan × TSpan) :=
  if op = 27 then setE yes u v else if (if yes = true then op else oppE op) ≥ 23 then signedE nw (if yes = true then op else oppE op) u v else plainE (if yes = true then op else oppE op) u v
theorem without_eq {nw : Bool} {s n : TSpan} (hs : SpOk nw s) : span_without s n = woE s n := by
  have h1 := hs.lo; have h2 := hs.le; have h3 := hs.hi; have hm := mostI_u nw
  unfold span_without span_without_J0 woE letF
  simp only [one_iff, beq_iff_eq]
  by_cases c1 : s.Lo = s.Hi
  · simp [c1]
  · by_cases c2 : n.Lo = n.Hi
    · simp only [c1, c2, decide_false, decide_true, Bool.not_true, Bool.or_self, Bool.false_eq_true, if_false, ne_eq, not_true_eq_false, or_self]
      rw [wrapU64_eq, Int.emod_eq_of_lt (a := s.Lo + 1) (by omega) (by omega), wrapU64_eq, Int.emod_eq_of_lt (a := s.Hi - 1) (by omega) (by omega)]
      split <;> split <;> rfl
    · simp [c1, c2]
theorem plain19_eq {nw : Bool} {u v : TSpan} (hu : SpOk nw u) (hv : SpOk nw v) : span_work_plain_19 (wk nw u v) = gtE u v := by
  have h1 := hu.lo; have h2 := hu.le; have h3 := hu.hi; have g1 := hv.lo; have g2 := hv.le; have g3 := hv.hi; have hm := mostI_u nw
  refine mustI (p := u.Hi > v.Lo) rfl _ _ fun h => ?_
  show ((⟨gMax u.Lo (IntKind.u64.wrap (v.Lo + 1)), u.Hi⟩ : TSpan), (⟨v.Lo, gMin v.Hi (IntKind.u64.wrap (u.Hi - 1))⟩ : TSpan)) = _
  rw [gMax_eq, gMin_eq, wrapU64_eq, Int.emod_eq_of_lt (by omega) (by omega), wrapU64_eq, Int.emod_eq_of_lt (by omega) (by omega)]
theorem plain20_eq {nw : Bool} {u v : TSpan} : span_work_plain_20 (wk nw u v) = geE u v := by
  refine mustI (p := u.Hi ≥ v.Lo) rfl _ _ fun h => ?_
  show ((⟨gMax u.Lo v.Lo, u.Hi⟩ : TSpan), (⟨v.Lo, gMin v.Hi u.Hi⟩ : TSpan)) = _
  rw [gMax_eq, gMin_eq]
theorem optF_swap (o : Option (TSpan × TSpan)) : optF o none (fun x => some (x.2, x.1)) = swapE o := by cases o <;> rfl
theorem optF_id (o : Option (TSpan × TSpan)) : optF o none (fun x => some (x.1, x.2)) = o := by cases o <;> rfl
theorem plain_eq {op : Int} (hop : 17 ≤ op ∧ op ≤ 22) {nw : Bool} {u v : TSpan} (hu : SpOk nw u) (hv : SpOk nw v) : span_work_plain (wk nw u v) op = plainE op u v := by
  have h1 := hu.lo; have h2 := hu.le; have h3 := hu.hi; have g1 := hv.lo; have g2 := hv.le; have g3 := hv.hi; have hm := mostI_u nw
  have hh : op = 17 ∨ op = 18 ∨ op = 19 ∨ op = 20 ∨ op = 21 ∨ op = 22 := by omega
  rcases hh with rfl | rfl | rfl | rfl | rfl | rfl
  · show optF (span_must (span_Meet u v).2) none (fun _ => some ((span_Meet u v).1, (span_Meet u v).1)) = if max u.Lo v.Lo ≤ min u.Hi v.Hi then _ else none
    have e : span_Meet u v = if max u.Lo v.Lo ≤ min u.Hi v.Hi then (⟨max u.Lo v.Lo, min u.Hi v.Hi⟩, true) else (⟨0, 0⟩, false) := by
      unfold span_Meet span_Right letF
      rw [gMax_eq, gMin_eq]
      by_cases hc : max u.Lo v.Lo ≤ min u.Hi v.Hi
      · rw [if_pos hc, decide_eq_true hc]; rfl
      · rw [if_neg hc, decide_eq_false hc]; rfl
    rw [e]
    by_cases hc : max u.Lo v.Lo ≤ min u.Hi v.Hi
    · rw [if_pos hc, if_pos hc]; rfl
    · rw [if_neg hc, if_neg hc]; rfl
  · refine (mustI (p := ¬ (u.Lo = u.Hi ∧ v.Lo = v.Hi ∧ u.Lo = v.Lo)) ?_ _ (woE u v, woE v u) fun _ => ?_).trans ?_
    · show ((!(span_work_both (wk nw u v))) || (!((u.Lo == v.Lo) && (u.Hi == v.Hi)))) = _
      have bq : ∀ a b : Int, (a == b) = decide (a = b) := fun a b => by rw [Bool.eq_iff_iff]; simp
      rw [both_iff]
      by_cases c1 : u.Lo = u.Hi <;> by_cases c2 : v.Lo = v.Hi <;> simp [c1, c2, wk, bq]
    · show (span_without u v, span_without v u) = _
      rw [without_eq hu, without_eq hv]
    · show _ = if u.Lo = u.Hi ∧ v.Lo = v.Hi ∧ u.Lo = v.Lo then none else _
      by_cases hc : u.Lo = u.Hi ∧ v.Lo = v.Hi ∧ u.Lo = v.Lo
      · rw [if_pos hc, if_neg (fun h => h hc)]
      · rw [if_neg hc, if_pos hc]
  · exact plain19_eq hu hv
  · exact plain20_eq
  · show optF (span_work_plain_19 (wk nw v u)) none (fun x => some (x.2, x.1)) = swapE (gtE v u)
    rw [plain19_eq hv hu, optF_swap]
  · show optF (span_work_plain_20 (wk nw v u)) none (fun x => some (x.2, x.1)) = swapE (geE v u)
    rw [plain20_eq, optF_swap]
theorem signed_eq {op : Int} (hop : 23 ≤ op ∧ op ≤ 26) {nw : Bool} {u v : TSpan} (hu : SpOk nw u) (hv : SpOk nw v) : span_work_signed (wk nw u v) op = signedE nw op u v := by
  have h1 := hu.lo; have h2 := hu.le; have h3 := hu.hi; have g1 := hv.lo; have g2 := hv.le; have g3 := hv.hi
  show (if (span_work_mixed (wk nw u v) u || span_work_mixed (wk nw u v) v) = true then some (u, v) else if (span_work_below (wk nw u v) u.Lo == span_work_below (wk nw u v) v.Lo) = true then optF (span_work_plain (wk nw u v) (IntKind.u8.wrap (IntKind.u8.wrap (op - 23) + 19))) none (fun x => some (x.1, x.2)) else optF (span_must (((op == 23) || (op == 24)) == span_work_below (wk nw u v) v.Lo)) none (fun _ => some (u, v))) = _
  rw [mixed_eq hu, mixed_eq hv, below_eq (nw := nw) (a := u) (b := v) (x := u.Lo) ⟨h1, by omega⟩, below_eq (nw := nw) (a := u) (b := v) (x := v.Lo) ⟨g1, by omega⟩]
  rw [show IntKind.u8.wrap (IntKind.u8.wrap (op - 23) + 19) = op - 4 from by rw [wrapU8_eq, wrapU8_eq]; omega, plain_eq (by omega) hu hv, optF_id]
  unfold signedE
  rw [show decide (mostI nw < 2 * u.Lo) = negB nw u.Lo from rfl, show decide (mostI nw < 2 * u.Hi) = negB nw u.Hi from rfl, show decide (mostI nw < 2 * v.Lo) = negB nw v.Lo from rfl, show decide (mostI nw < 2 * v.Hi) = negB nw v.Hi from rfl]
  simp only [Bool.or_eq_true, bne_iff_ne, beq_iff_eq]
  split
  · rfl
  · split
    · rfl
    · rw [optF_must]
      have : ((((op == 23) || (op == 24)) == negB nw v.Lo) = true) ↔ ((op = 23 ∨ op = 24) ↔ negB nw v.Lo = true) := by
        rw [beq_iff_eq, Bool.eq_iff_iff]; simp
      by_cases hc : (op = 23 ∨ op = 24) ↔ negB nw v.Lo = true
      · rw [if_pos hc, if_pos (this.2 hc)]
      · rw [if_neg hc, if_neg (fun h => hc (this.1 h))]
theorem set_eq {nw yes : Bool} {u v : TSpan} (hu : SpOk nw u) (hv : SpOk nw v) : span_work_set (wk nw u v) yes = setE yes u v := by
  have iu := hu.u; have iv := hv.u
  have hb : bAnd .u64 u.Lo v.Lo = ((u.Lo.toNat &&& v.Lo.toNat : Nat) : Int) := bAnd64 iu.1 iv.1
  cases yes with
  | false =>
    refine (mustI (p := ¬ (u.Lo = u.Hi ∧ v.Lo = v.Hi ∧ u.Lo.toNat &&& v.Lo.toNat ≠ 0)) ?_ _ (u, v) fun _ => rfl).trans ?_
    · show ((!(span_work_both (wk nw u v))) || (!(bAnd .u64 u.Lo v.Lo != 0))) = _
      rw [both_iff, hb]
      have hz : (((u.Lo.toNat &&& v.Lo.toNat : Nat) : Int) != 0) = decide (u.Lo.toNat &&& v.Lo.toNat ≠ 0) := by rw [Bool.eq_iff_iff, bne_iff_ne, decide_eq_true_eq]; omega
      rw [hz]
      by_cases c1 : u.Lo = u.Hi <;> by_cases c2 : v.Lo = v.Hi <;> simp [c1, c2, wk]
    · show _ = if u.Lo = u.Hi ∧ v.Lo = v.Hi ∧ u.Lo.toNat &&& v.Lo.toNat ≠ 0 then none else some (u, v)
      by_cases hc : u.Lo = u.Hi ∧ v.Lo = v.Hi ∧ u.Lo.toNat &&& v.Lo.toNat ≠ 0
      · rw [if_pos hc, if_neg (fun h => h hc)]
      · rw [if_neg hc, if_pos hc]
  | true =>
    refine mustI (p := u.Hi > 0 ∧ v.Hi > 0 ∧ ¬ (u.Lo = u.Hi ∧ v.Lo = v.Hi ∧ u.Lo.toNat &&& v.Lo.toNat = 0)) ?_ _ _ fun _ => ?_
    · show ((decide (u.Hi > 0) && decide (v.Hi > 0)) && ((!(span_work_both (wk nw u v))) || (bAnd .u64 u.Lo v.Lo != 0))) = _
      rw [both_iff, hb]
      have hz : (((u.Lo.toNat &&& v.Lo.toNat : Nat) : Int) != 0) = decide (u.Lo.toNat &&& v.Lo.toNat ≠ 0) := by rw [Bool.eq_iff_iff, bne_iff_ne, decide_eq_true_eq]; omega
      rw [hz]
      by_cases c1 : u.Lo = u.Hi <;> by_cases c2 : v.Lo = v.Hi <;> simp [c1, c2, wk, Bool.and_assoc]
    · show ((⟨gMax u.Lo 1, u.Hi⟩ : TSpan), (⟨gMax v.Lo 1, v.Hi⟩ : TSpan)) = _
      rw [gMax_eq, gMax_eq]
theorem ask_eq {op : Int} (hop : 17 ≤ op ∧ op ≤ 27) {nw yes : Bool} {u v : TSpan} (hu : SpOk nw u) (hv : SpOk nw v) : span_work_ask (wk nw u v) op yes = askE nw op yes u v := by
  have hJ : ∀ q : Int, 17 ≤ q ∧ q ≤ 26 → span_work_ask_J0 (wk nw u v) op yes q = if q ≥ 23 then signedE nw q u v else plainE q u v := by
    intro q hq
    unfold span_work_ask_J0
    rw [optF_id, optF_id]
    by_cases h : q ≥ 23
    · rw [if_pos h, if_pos (by simpa using h), signed_eq (by omega) hu hv]
    · rw [if_neg h, if_neg (by simpa using h), plain_eq (by omega) hu hv]
  have hh : op = 17 ∨ op = 18 ∨ op = 19 ∨ op = 20 ∨ op = 21 ∨ op = 22 ∨ op = 23 ∨ op = 24 ∨ op = 25 ∨ op = 26 ∨ op = 27 := by omega
  rcases hh with rfl | rfl | rfl | rfl | rfl | rfl | rfl | rfl | rfl | rfl | rfl
  case inr.inr.inr.inr.inr.inr.inr.inr.inr.inr =>
    show optF (span_work_set (wk nw u v) yes) none (fun x => some (x.1, x.2)) = setE yes u v
    rw [optF_id, set_eq hu hv]
  · cases yes with
    | true => exact hJ 17 (by omega)
    | false => exact hJ 18 (by omega)
  · cases yes with
    | true => exact hJ 18 (by omega)
    | false => exact hJ 17 (by omega)
  · cases yes with
    | true => exact hJ 19 (by omega)
    | false => exact hJ 22 (by omega)
  · cases yes with
    | true => exact hJ 20 (by omega)
    | false => exact hJ 21 (by omega)
  · cases yes with
    | true => exact hJ 21 (by omega)
    | false => exact hJ 20 (by omega)
  · cases yes with
    | true => exact hJ 22 (by omega)
    | false => exact hJ 19 (by omega)
  · cases yes with
    | true => exact hJ 23 (by omega)
    | false => exact hJ 26 (by omega)
  · cases yes with
    | true => exact hJ 24 (by omega)
    | false => exact hJ 25 (by omega)
  · cases yes with
    | true => exact hJ 25 (by omega)
    | false => exact hJ 24 (by omega)
  · cases yes with
    | true => exact hJ 26 (by omega)
    | false => exact hJ 23 (by omega)
theorem span_If_eq {op : Int} (hop : 17 ≤ op ∧ op ≤ 27) {nw yes : Bool} {a b : TSpan} (ha : IU64 a.Lo ∧ IU64 a.Hi) (hb : IU64 b.Lo ∧ IU64 b.Hi) (hla : a.Lo ≤ a.Hi) (hlb : b.Lo ≤ b.Hi) :
    span_If op nw yes a b = match askE nw op yes (span_cut a nw) (span_cut b nw) with | none => (⟨0, 0⟩, ⟨0, 0⟩, false) | some x => (if a.Hi > mostI nw then a else x.1, if b.Hi > mostI nw then b else x.2, true) := by
  unfold span_If span_Right letF
  rw [if_neg (by simp; omega), over_eq]
  simp only
  rw [ask_eq hop (cut_ok ha hla) (cut_ok hb hlb)]
  cases askE nw op yes (span_cut a nw) (span_cut b nw) with
  | none => rfl
  | some x =>
    show (if decide (a.Hi > mostI nw) = true then _ else _) = _
    unfold span_If_J0
    simp only [decide_eq_true_eq]
    rw [show (wk nw (span_cut a nw) (span_cut b nw)).most = mostI nw from rfl]
    split <;> split <;> rfl
/-! ### What a question leaves has what it is true of; of spans within others it leaves what is within -/
def Rt (s : TSpan) : Prop := s.Lo ≤ s.Hi
def Snd (o : Option (TSpan × TSpan)) (u v : TSpan) (p q : Int) : Prop := ∃ x y, o = some (x, y) ∧ Rt x ∧ Rt y ∧ Hs x p ∧ Hs y q ∧ Wi x u ∧ Wi y v
def Mon (o o' : Option (TSpan × TSpan)) : Prop := ∀ x y, o = some (x, y) → ∃ x' y', o' = some (x', y') ∧ Wi x x' ∧ Wi y y'
theorem Snd.swap {o : Option (TSpan × TSpan)} {u v : TSpan} {p q : Int} (h : Snd o u v p q) : Snd (swapE o) v u q p := by
  obtain ⟨x, y, rfl, h1, h2, h3, h4, h5, h6⟩ := h
  exact ⟨y, x, rfl, h2, h1, h4, h3, h6, h5⟩
theorem Mon.swap {o o' : Option (TSpan × TSpan)} (h : Mon o o') : Mon (swapE o) (swapE o') := by
  intro x y hxy
  cases o with
  | none => cases hxy
  | some z =>
    obtain ⟨a, b⟩ := z
    obtain ⟨rfl, rfl⟩ : b = x ∧ a = y := by simpa [swapE] using hxy
    obtain ⟨x', y', rfl, h1, h2⟩ := h a b rfl
    exact ⟨y', x', rfl, h2, h1⟩
theorem snd_of {o : Option (TSpan × TSpan)} {u v : TSpan} {p q : Int} (x y : TSpan) (ho : o = some (x, y)) (h1 : Rt x ∧ Hs x p ∧ Wi x u) (h2 : Rt y ∧ Hs y q ∧ Wi y v) : Snd o u v p q :=
  ⟨x, y, ho, h1.1, h2.1, h1.2.1, h2.2.1, h1.2.2, h2.2.2⟩
theorem snd_same {u v : TSpan} {p q : Int} (hp : Hs u p) (hq : Hs v q) : Snd (some (u, v)) u v p q :=
  snd_of u v rfl ⟨Int.le_trans hp.1 hp.2, hp, Int.le_refl _, Int.le_refl _⟩ ⟨Int.le_trans hq.1 hq.2, hq, Int.le_refl _, Int.le_refl _⟩
theorem gt_snd {u v : TSpan} {p q : Int} (hp : Hs u p) (hq : Hs v q) (h : p > q) : Snd (gtE u v) u v p q := by
  have p1 := hp.1; have p2 := hp.2; have q1 := hq.1; have q2 := hq.2
  refine snd_of _ _ (if_pos (by omega)) ⟨?_, ⟨?_, ?_⟩, ?_, ?_⟩ ⟨?_, ⟨?_, ?_⟩, ?_, ?_⟩
  all_goals simp only [Rt]
  all_goals omega
theorem ge_snd {u v : TSpan} {p q : Int} (hp : Hs u p) (hq : Hs v q) (h : p ≥ q) : Snd (geE u v) u v p q := by
  have p1 := hp.1; have p2 := hp.2; have q1 := hq.1; have q2 := hq.2
  refine snd_of _ _ (if_pos (by omega)) ⟨?_, ⟨?_, ?_⟩, ?_, ?_⟩ ⟨?_, ⟨?_, ?_⟩, ?_, ?_⟩
  all_goals simp only [Rt]
  all_goals omega
theorem wo_snd {u v : TSpan} {p q : Int} (hp : Hs u p) (hq : Hs v q) (h : p ≠ q) : Rt (woE u v) ∧ Hs (woE u v) p ∧ Wi (woE u v) u := by
  have p1 := hp.1; have p2 := hp.2; have q1 := hq.1; have q2 := hq.2
  unfold woE
  by_cases c : u.Lo = u.Hi ∨ v.Lo ≠ v.Hi
  · rw [if_pos c]; exact ⟨by unfold Rt; omega, hp, Int.le_refl _, Int.le_refl _⟩
  · rw [if_neg c]
    refine ⟨?_, ⟨?_, ?_⟩, ?_, ?_⟩
    all_goals simp only [Rt]
    all_goals (try split) <;> (try split) <;> omega
theorem plain_snd {op : Int} (hop : 17 ≤ op ∧ op ≤ 22) {nw : Bool} {u v : TSpan} {p q : Int} (hp : Hs u p) (hq : Hs v q) (h : isE nw op p q = true) : Snd (plainE op u v) u v p q := by
  have p1 := hp.1; have p2 := hp.2; have q1 := hq.1; have q2 := hq.2
  have hh : op = 17 ∨ op = 18 ∨ op = 19 ∨ op = 20 ∨ op = 21 ∨ op = 22 := by omega
  rcases hh with rfl | rfl | rfl | rfl | rfl | rfl
  · have h : p = q := of_decide_eq_true h
    show Snd (if max u.Lo v.Lo ≤ min u.Hi v.Hi then some (⟨max u.Lo v.Lo, min u.Hi v.Hi⟩, ⟨max u.Lo v.Lo, min u.Hi v.Hi⟩) else none) u v p q
    refine snd_of _ _ (if_pos (by omega)) ⟨?_, ⟨?_, ?_⟩, ?_, ?_⟩ ⟨?_, ⟨?_, ?_⟩, ?_, ?_⟩
    all_goals simp only [Rt]
    all_goals omega
  · have h : p ≠ q := of_decide_eq_true h
    show Snd (if u.Lo = u.Hi ∧ v.Lo = v.Hi ∧ u.Lo = v.Lo then none else some (woE u v, woE v u)) u v p q
    exact snd_of _ _ (if_neg (by omega)) (wo_snd hp hq h) (wo_snd hq hp (Ne.symm h))
  · exact gt_snd hp hq (of_decide_eq_true h)
  · exact ge_snd hp hq (of_decide_eq_true h)
  · exact (gt_snd hq hp (show p < q from of_decide_eq_true h)).swap
  · exact (ge_snd hq hp (show p ≤ q from of_decide_eq_true h)).swap
theorem neg_mid {nw : Bool} {u : TSpan} {p : Int} (hp : Hs u p) (h : negB nw u.Lo = negB nw u.Hi) : negB nw p = negB nw u.Lo := by
  have p1 := hp.1; have p2 := hp.2
  unfold negB at *
  rw [Bool.eq_iff_iff, decide_eq_true_eq, decide_eq_true_eq] at *
  omega
theorem sgn_lt {nw : Bool} {p q : Int} (h : negB nw p = negB nw q) : sgn nw p < sgn nw q ↔ p < q := by
  unfold negB at h; unfold sgn
  rw [Bool.eq_iff_iff, decide_eq_true_eq, decide_eq_true_eq] at h
  split <;> split <;> omega
theorem sgn_ne {nw : Bool} {p q : Int} (hp : 0 ≤ p ∧ p ≤ mostI nw) (hq : 0 ≤ q ∧ q ≤ mostI nw) (h : negB nw p ≠ negB nw q) : (sgn nw p < sgn nw q ↔ negB nw q = false) ∧ sgn nw p ≠ sgn nw q := by
  unfold sgn
  cases h1 : negB nw p <;> cases h2 : negB nw q
  · rw [h1, h2] at h; exact absurd rfl h
  · unfold negB at h1 h2; simp at h1 h2; rw [if_neg (by omega), if_pos h2]; simp; omega
  · unfold negB at h1 h2; simp at h1 h2; rw [if_pos h1, if_neg (by omega)]; simp; omega
  · rw [h1, h2] at h; exact absurd rfl h
theorem signed_snd {op : Int} (hop : 23 ≤ op ∧ op ≤ 26) {nw : Bool} {u v : TSpan} (hu : SpOk nw u) (hv : SpOk nw v) {p q : Int} (hp : Hs u p) (hq : Hs v q) (h : isE nw op p q = true) : Snd (signedE nw op u v) u v p q := by
  have hh : op = 23 ∨ op = 24 ∨ op = 25 ∨ op = 26 := by omega
  unfold signedE
  split
  · exact snd_same hp hq
  · rename_i hm
    have mu : negB nw u.Lo = negB nw u.Hi := Classical.byContradiction fun hc => hm (.inl hc)
    have mv : negB nw v.Lo = negB nw v.Hi := Classical.byContradiction fun hc => hm (.inr hc)
    have np := neg_mid hp mu
    have nq := neg_mid hq mv
    split
    · rename_i he
      have e : negB nw p = negB nw q := by rw [np, nq, he]
      have l1 := sgn_lt e
      have l2 := sgn_lt e.symm
      refine plain_snd (nw := nw) (by omega) hp hq ?_
      rcases hh with rfl | rfl | rfl | rfl
      · have h : sgn nw p > sgn nw q := of_decide_eq_true h
        exact decide_eq_true (show p > q from l2.1 h)
      · have h : sgn nw p ≥ sgn nw q := of_decide_eq_true h
        exact decide_eq_true (show p ≥ q by omega)
      · have h : sgn nw p < sgn nw q := of_decide_eq_true h
        exact decide_eq_true (show p < q from l1.1 h)
      · have h : sgn nw p ≤ sgn nw q := of_decide_eq_true h
        exact decide_eq_true (show p ≤ q by omega)
    · rename_i he
      have rp : 0 ≤ p ∧ p ≤ mostI nw := by have := hp.1; have := hp.2; have := hu.lo; have := hu.hi; omega
      have rq : 0 ≤ q ∧ q ≤ mostI nw := by have := hq.1; have := hq.2; have := hv.lo; have := hv.hi; omega
      obtain ⟨l1, l2⟩ := sgn_ne rp rq (by rw [np, nq]; exact he)
      rw [nq] at l1
      rw [if_pos]
      · exact snd_same hp hq
      · rcases hh with rfl | rfl | rfl | rfl
        · have h : sgn nw p > sgn nw q := of_decide_eq_true h
          cases hb : negB nw v.Lo with
          | true => simp
          | false => have := l1.2 hb; omega
        · have h : sgn nw p ≥ sgn nw q := of_decide_eq_true h
          cases hb : negB nw v.Lo with
          | true => simp
          | false => have := l1.2 hb; omega
        · have h : sgn nw p < sgn nw q := of_decide_eq_true h
          rw [l1.1 h]; simp
        · have h : sgn nw p ≤ sgn nw q := of_decide_eq_true h
          rw [l1.1 (by omega)]; simp
theorem set_snd {yes : Bool} {nw : Bool} {u v : TSpan} (hu : SpOk nw u) (hv : SpOk nw v) {p q : Int} (hp : Hs u p) (hq : Hs v q) (h : isE nw 27 p q = yes) : Snd (setE yes u v) u v p q := by
  have p1 := hp.1; have p2 := hp.2; have q1 := hq.1; have q2 := hq.2
  have u1 := hu.lo; have v1 := hv.lo
  cases yes with
  | false =>
    have h : p.toNat &&& q.toNat = 0 := by have := of_decide_eq_false h; simpa using this
    unfold setE
    rw [if_pos rfl, if_neg]
    · exact snd_same hp hq
    · rintro ⟨c1, c2, c3⟩
      rw [show u.Lo = p by omega, show v.Lo = q by omega] at c3
      exact c3 h
  | true =>
    have h : p.toNat &&& q.toNat ≠ 0 := of_decide_eq_true h
    have hp0 : p ≠ 0 := by intro e; rw [e] at h; simp at h
    have hq0 : q ≠ 0 := by intro e; rw [e] at h; simp at h
    unfold setE
    rw [if_neg (by decide)]
    have hc : ¬ (u.Lo = u.Hi ∧ v.Lo = v.Hi ∧ u.Lo.toNat &&& v.Lo.toNat = 0) := by
      rintro ⟨c1, c2, c3⟩
      rw [show u.Lo = p by omega, show v.Lo = q by omega] at c3
      exact h c3
    refine snd_of _ _ (if_pos ⟨by omega, by omega, hc⟩) ⟨?_, ⟨?_, ?_⟩, ?_, ?_⟩ ⟨?_, ⟨?_, ?_⟩, ?_, ?_⟩
    all_goals simp only [Rt]
    all_goals omega
theorem opp_is {op : Int} (hop : 17 ≤ op ∧ op ≤ 26) {nw : Bool} {p q : Int} : isE nw (oppE op) p q = !isE nw op p q := by
  have hh : op = 17 ∨ op = 18 ∨ op = 19 ∨ op = 20 ∨ op = 21 ∨ op = 22 ∨ op = 23 ∨ op = 24 ∨ op = 25 ∨ op = 26 := by omega
  rcases hh with rfl | rfl | rfl | rfl | rfl | rfl | rfl | rfl | rfl | rfl
  · show decide (p ≠ q) = !decide (p = q); simp
  · show decide (p = q) = !decide (p ≠ q); simp
  · show decide (p ≤ q) = !decide (p > q); rw [Bool.eq_iff_iff]; simp
  · show decide (p < q) = !decide (p ≥ q); rw [Bool.eq_iff_iff]; simp
  · show decide (p ≥ q) = !decide (p < q); rw [Bool.eq_iff_iff]; simp
  · show decide (p > q) = !decide (p ≤ q); rw [Bool.eq_iff_iff]; simp
  · show decide (sgn nw p ≤ sgn nw q) = !decide (sgn nw p > sgn nw q); rw [Bool.eq_iff_iff]; simp
  · show decide (sgn nw p < sgn nw q) = !decide (sgn nw p ≥ sgn nw q); rw [Bool.eq_iff_iff]; simp
  · show decide (sgn nw p ≥ sgn nw q) = !decide (sgn nw p < sgn nw q); rw [Bool.eq_iff_iff]; simp
  · show decide (sgn nw p > sgn nw q) = !decide (sgn nw p ≤ sgn nw q); rw [Bool.eq_iff_iff]; simp
theorem oppE_rng {op : Int} (hop : 17 ≤ op ∧ op ≤ 26) : 17 ≤ oppE op ∧ oppE op ≤ 26 ∧ (oppE op ≥ 23 ↔ op ≥ 23) := by
  unfold oppE
  repeat' split
  all_goals omega
theorem ask_snd {op : Int} (hop : 17 ≤ op ∧ op ≤ 27) {nw yes : Bool} {u v : TSpan} (hu : SpOk nw u) (hv : SpOk nw v) {p q : Int} (hp : Hs u p) (hq : Hs v q) (h : isE nw op p q = yes) : Snd (askE nw op yes u v) u v p q := by
  unfold askE
  by_cases h27 : op = 27
  · subst h27; rw [if_pos rfl]; exact set_snd hu hv hp hq h
  · rw [if_neg h27]
    have key : ∀ o : Int, 17 ≤ o ∧ o ≤ 26 → isE nw o p q = true → Snd (if o ≥ 23 then signedE nw o u v else plainE o u v) u v p q := by
      intro o ho hi
      split
      · exact signed_snd (by omega) hu hv hp hq hi
      · exact plain_snd (by omega) hp hq hi
    cases yes with
    | true => exact key op (by omega) h
    | false =>
      have ho := oppE_rng (op := op) (by omega)
      exact key (oppE op) ⟨ho.1, ho.2.1⟩ (by rw [opp_is (by omega), h]; rfl)
theorem gt_mon {u v s t : TSpan} (h1 : Wi s u) (h2 : Wi t v) : Mon (gtE s t) (gtE u v) := by
  have a1 := h1.1; have a2 := h1.2; have b1 := h2.1; have b2 := h2.2
  intro x y hxy
  unfold gtE at hxy ⊢
  split at hxy
  · simp only [Option.some.injEq, Prod.mk.injEq] at hxy
    obtain ⟨rfl, rfl⟩ := hxy
    exact ⟨_, _, if_pos (by omega), ⟨by show max u.Lo (v.Lo + 1) ≤ max s.Lo (t.Lo + 1); omega, a2⟩, ⟨b1, by show min t.Hi (s.Hi - 1) ≤ min v.Hi (u.Hi - 1); omega⟩⟩
  · cases hxy
theorem ge_mon {u v s t : TSpan} (h1 : Wi s u) (h2 : Wi t v) : Mon (geE s t) (geE u v) := by
  have a1 := h1.1; have a2 := h1.2; have b1 := h2.1; have b2 := h2.2
  intro x y hxy
  unfold geE at hxy ⊢
  split at hxy
  · simp only [Option.some.injEq, Prod.mk.injEq] at hxy
    obtain ⟨rfl, rfl⟩ := hxy
    exact ⟨_, _, if_pos (by omega), ⟨by show max u.Lo v.Lo ≤ max s.Lo t.Lo; omega, a2⟩, ⟨b1, by show min t.Hi s.Hi ≤ min v.Hi u.Hi; omega⟩⟩
  · cases hxy
theorem wo_sub {s t : TSpan} (hs : Rt s) : Wi (woE s t) s := by
  have hs : s.Lo ≤ s.Hi := hs
  unfold woE
  split
  · exact ⟨Int.le_refl _, Int.le_refl _⟩
  · refine ⟨?_, ?_⟩
    · show s.Lo ≤ (if s.Lo = t.Lo then s.Lo + 1 else s.Lo); split <;> omega
    · show (if s.Hi = t.Lo then s.Hi - 1 else s.Hi) ≤ s.Hi; split <;> omega
theorem wo_mon {u v s t : TSpan} (hs : Rt s) (_ht : Rt t) (h1 : Wi s u) (h2 : Wi t v) (hne : ¬ (s.Lo = s.Hi ∧ t.Lo = t.Hi ∧ s.Lo = t.Lo)) : Wi (woE s t) (woE u v) := by
  have a1 := h1.1; have a2 := h1.2; have b1 := h2.1; have b2 := h2.2
  have w := wo_sub (t := t) hs
  have w1 := w.1; have w2 := w.2
  unfold Rt at hs _ht
  by_cases c : u.Lo = u.Hi ∨ v.Lo ≠ v.Hi
  · rw [show woE u v = u from if_pos c]; exact ⟨by omega, by omega⟩
  · rw [show woE u v = _ from if_neg c]
    by_cases d : s.Lo = s.Hi ∨ t.Lo ≠ t.Hi
    · rw [show woE s t = s from if_pos d]
      refine ⟨?_, ?_⟩
      · show (if u.Lo = v.Lo then u.Lo + 1 else u.Lo) ≤ s.Lo; split <;> omega
      · show s.Hi ≤ (if u.Hi = v.Lo then u.Hi - 1 else u.Hi); split <;> omega
    · rw [show woE s t = _ from if_neg d]
      refine ⟨?_, ?_⟩
      · show (if u.Lo = v.Lo then u.Lo + 1 else u.Lo) ≤ (if s.Lo = t.Lo then s.Lo + 1 else s.Lo); split <;> split <;> omega
      · show (if s.Hi = t.Lo then s.Hi - 1 else s.Hi) ≤ (if u.Hi = v.Lo then u.Hi - 1 else u.Hi); split <;> split <;> omega
theorem plain_mon {op : Int} (hop : 17 ≤ op ∧ op ≤ 22) {u v s t : TSpan} (hs : Rt s) (ht : Rt t) (h1 : Wi s u) (h2 : Wi t v) : Mon (plainE op s t) (plainE op u v) := by
  have a1 := h1.1; have a2 := h1.2; have b1 := h2.1; have b2 := h2.2
  have hh : op = 17 ∨ op = 18 ∨ op = 19 ∨ op = 20 ∨ op = 21 ∨ op = 22 := by omega
  rcases hh with rfl | rfl | rfl | rfl | rfl | rfl
  · intro x y hxy
    have hxy : (if max s.Lo t.Lo ≤ min s.Hi t.Hi then some ((⟨max s.Lo t.Lo, min s.Hi t.Hi⟩ : TSpan), (⟨max s.Lo t.Lo, min s.Hi t.Hi⟩ : TSpan)) else none) = some (x, y) := hxy
    split at hxy
    · simp only [Option.some.injEq, Prod.mk.injEq] at hxy
      obtain ⟨rfl, rfl⟩ := hxy
      have w : Wi ⟨max s.Lo t.Lo, min s.Hi t.Hi⟩ ⟨max u.Lo v.Lo, min u.Hi v.Hi⟩ := ⟨by show max u.Lo v.Lo ≤ max s.Lo t.Lo; omega, by show min s.Hi t.Hi ≤ min u.Hi v.Hi; omega⟩
      exact ⟨_, _, if_pos (show max u.Lo v.Lo ≤ min u.Hi v.Hi by omega), w, w⟩
    · cases hxy
  · intro x y hxy
    have hxy : (if s.Lo = s.Hi ∧ t.Lo = t.Hi ∧ s.Lo = t.Lo then none else some (woE s t, woE t s)) = some (x, y) := hxy
    split at hxy
    · cases hxy
    · rename_i hne
      simp only [Option.some.injEq, Prod.mk.injEq] at hxy
      obtain ⟨rfl, rfl⟩ := hxy
      unfold Rt at hs ht
      exact ⟨_, _, if_neg (show ¬ (u.Lo = u.Hi ∧ v.Lo = v.Hi ∧ u.Lo = v.Lo) by omega), wo_mon hs ht h1 h2 hne, wo_mon ht hs h2 h1 (by omega)⟩
  · exact gt_mon h1 h2
  · exact ge_mon h1 h2
  · exact (gt_mon h2 h1).swap
  · exact (ge_mon h2 h1).swap
theorem plain_sub {op : Int} (hop : 17 ≤ op ∧ op ≤ 22) {s t : TSpan} (hs : Rt s) (ht : Rt t) : Mon (plainE op s t) (some (s, t)) := by
  unfold Rt at hs ht
  have hh : op = 17 ∨ op = 18 ∨ op = 19 ∨ op = 20 ∨ op = 21 ∨ op = 22 := by omega
  have gt : ∀ s t : TSpan, Mon (gtE s t) (some (s, t)) := by
    intro s t x y hxy
    unfold gtE at hxy
    split at hxy
    · simp only [Option.some.injEq, Prod.mk.injEq] at hxy
      obtain ⟨rfl, rfl⟩ := hxy
      exact ⟨s, t, rfl, ⟨by show s.Lo ≤ max s.Lo (t.Lo + 1); omega, Int.le_refl _⟩, ⟨Int.le_refl _, by show min t.Hi (s.Hi - 1) ≤ t.Hi; omega⟩⟩
    · cases hxy
  have ge : ∀ s t : TSpan, Mon (geE s t) (some (s, t)) := by
    intro s t x y hxy
    unfold geE at hxy
    split at hxy
    · simp only [Option.some.injEq, Prod.mk.injEq] at hxy
      obtain ⟨rfl, rfl⟩ := hxy
      exact ⟨s, t, rfl, ⟨by show s.Lo ≤ max s.Lo t.Lo; omega, Int.le_refl _⟩, ⟨Int.le_refl _, by show min t.Hi s.Hi ≤ t.Hi; omega⟩⟩
    · cases hxy
  rcases hh with rfl | rfl | rfl | rfl | rfl | rfl
  · intro x y hxy
    have hxy : (if max s.Lo t.Lo ≤ min s.Hi t.Hi then some ((⟨max s.Lo t.Lo, min s.Hi t.Hi⟩ : TSpan), (⟨max s.Lo t.Lo, min s.Hi t.Hi⟩ : TSpan)) else none) = some (x, y) := hxy
    split at hxy
    · simp only [Option.some.injEq, Prod.mk.injEq] at hxy
      obtain ⟨rfl, rfl⟩ := hxy
      exact ⟨s, t, rfl, ⟨by show s.Lo ≤ max s.Lo t.Lo; omega, by show min s.Hi t.Hi ≤ s.Hi; omega⟩, ⟨by show t.Lo ≤ max s.Lo t.Lo; omega, by show min s.Hi t.Hi ≤ t.Hi; omega⟩⟩
    · cases hxy
  · intro x y hxy
    have hxy : (if s.Lo = s.Hi ∧ t.Lo = t.Hi ∧ s.Lo = t.Lo then none else some (woE s t, woE t s)) = some (x, y) := hxy
    split at hxy
    · cases hxy
    · simp only [Option.some.injEq, Prod.mk.injEq] at hxy
      obtain ⟨rfl, rfl⟩ := hxy
      exact ⟨s, t, rfl, wo_sub hs, wo_sub ht⟩
  · exact gt s t
  · exact ge s t
  · exact (gt t s).swap
  · exact (ge t s).swap
theorem signed_mon {op : Int} (hop : 23 ≤ op ∧ op ≤ 26) {nw : Bool} {u v s t : TSpan} (hs : Rt s) (ht : Rt t) (h1 : Wi s u) (h2 : Wi t v) : Mon (signedE nw op s t) (signedE nw op u v) := by
  have same : Mon (some (s, t)) (some (u, v)) := by
    intro x y hxy
    simp only [Option.some.injEq, Prod.mk.injEq] at hxy
    obtain ⟨rfl, rfl⟩ := hxy
    exact ⟨u, v, rfl, h1, h2⟩
  have tr : ∀ {a b c : Option (TSpan × TSpan)}, Mon a b → Mon b c → Mon a c := by
    intro a b c hab hbc x y hxy
    obtain ⟨x', y', e, f1, f2⟩ := hab x y hxy
    obtain ⟨x2, y2, e2, g1, g2⟩ := hbc x' y' e
    exact ⟨x2, y2, e2, ⟨Int.le_trans g1.1 f1.1, Int.le_trans f1.2 g1.2⟩, ⟨Int.le_trans g2.1 f2.1, Int.le_trans f2.2 g2.2⟩⟩
  have sub : Mon (signedE nw op s t) (some (s, t)) := by
    unfold signedE
    split
    · intro x y hxy
      simp only [Option.some.injEq, Prod.mk.injEq] at hxy
      obtain ⟨rfl, rfl⟩ := hxy
      exact ⟨_, _, rfl, ⟨Int.le_refl _, Int.le_refl _⟩, ⟨Int.le_refl _, Int.le_refl _⟩⟩
    · split
      · exact plain_sub (by omega) hs ht
      · split
        · intro x y hxy
          simp only [Option.some.injEq, Prod.mk.injEq] at hxy
          obtain ⟨rfl, rfl⟩ := hxy
          exact ⟨_, _, rfl, ⟨Int.le_refl _, Int.le_refl _⟩, ⟨Int.le_refl _, Int.le_refl _⟩⟩
        · intro x y hxy; cases hxy
  have ls : Hs u s.Lo := ⟨h1.1, Int.le_trans hs h1.2⟩
  have rs : Hs u s.Hi := ⟨Int.le_trans h1.1 hs, h1.2⟩
  have lt : Hs v t.Lo := ⟨h2.1, Int.le_trans ht h2.2⟩
  have rt : Hs v t.Hi := ⟨Int.le_trans h2.1 ht, h2.2⟩
  by_cases hm : negB nw u.Lo ≠ negB nw u.Hi ∨ negB nw v.Lo ≠ negB nw v.Hi
  · rw [show signedE nw op u v = some (u, v) from if_pos hm]
    exact tr sub same
  · have mu : negB nw u.Lo = negB nw u.Hi := Classical.byContradiction fun hc => hm (.inl hc)
    have mv : negB nw v.Lo = negB nw v.Hi := Classical.byContradiction fun hc => hm (.inr hc)
    have e1 := neg_mid ls mu; have e2 := neg_mid rs mu; have e3 := neg_mid lt mv; have e4 := neg_mid rt mv
    unfold signedE
    rw [e1, e2, e3, e4, if_neg hm, if_neg (by simp)]
    split
    · exact plain_mon (by omega) hs ht h1 h2
    · split
      · exact same
      · intro x y hxy; cases hxy
theorem set_mon {yes : Bool} {nw : Bool} {u v s t : TSpan} (hu : SpOk nw u) (hv : SpOk nw v) (hs : Rt s) (ht : Rt t) (h1 : Wi s u) (h2 : Wi t v) : Mon (setE yes s t) (setE yes u v) := by
  have a1 := h1.1; have a2 := h1.2; have b1 := h2.1; have b2 := h2.2
  have u1 := hu.lo; have v1 := hv.lo
  unfold Rt at hs ht
  intro x y hxy
  unfold setE at hxy ⊢
  cases yes with
  | false =>
    rw [if_pos rfl] at hxy ⊢
    split at hxy
    · cases hxy
    · rename_i hc
      simp only [Option.some.injEq, Prod.mk.injEq] at hxy
      obtain ⟨rfl, rfl⟩ := hxy
      refine ⟨u, v, if_neg ?_, h1, h2⟩
      rintro ⟨c1, c2, c3⟩
      refine hc ⟨by omega, by omega, ?_⟩
      rw [show s.Lo = u.Lo by omega, show t.Lo = v.Lo by omega]; exact c3
  | true =>
    rw [if_neg (by decide)] at hxy ⊢
    split at hxy
    · rename_i hc
      obtain ⟨hc1, hc2, hc3⟩ := hc
      simp only [Option.some.injEq, Prod.mk.injEq] at hxy
      obtain ⟨rfl, rfl⟩ := hxy
      have hk : ¬ (u.Lo = u.Hi ∧ v.Lo = v.Hi ∧ u.Lo.toNat &&& v.Lo.toNat = 0) := by
        rintro ⟨c1, c2, c3⟩
        refine hc3 ⟨by omega, by omega, ?_⟩
        rw [show s.Lo = u.Lo by omega, show t.Lo = v.Lo by omega]; exact c3
      exact ⟨_, _, if_pos ⟨by omega, by omega, hk⟩, ⟨by show max u.Lo 1 ≤ max s.Lo 1; omega, a2⟩, ⟨by show max v.Lo 1 ≤ max t.Lo 1; omega, b2⟩⟩
    · cases hxy
theorem ask_mon {op : Int} (hop : 17 ≤ op ∧ op ≤ 27) {nw yes : Bool} {u v s t : TSpan} (hu : SpOk nw u) (hv : SpOk nw v) (hs : Rt s) (ht : Rt t) (h1 : Wi s u) (h2 : Wi t v) : Mon (askE nw op yes s t) (askE nw op yes u v) := by
  unfold askE
  by_cases h27 : op = 27
  · rw [if_pos h27, if_pos h27]; exact set_mon hu hv hs ht h1 h2
  · rw [if_neg h27, if_neg h27]
    have ho := oppE_rng (op := op) (by omega)
    have hq : 17 ≤ (if yes = true then op else oppE op) ∧ (if yes = true then op else oppE op) ≤ 26 := by split <;> omega
    generalize (if yes = true then op else oppE op) = o at *
    split
    · exact signed_mon (by omega) hs ht h1 h2
    · exact plain_mon (by omega) hs ht h1 h2
/-! ### and the laws -/
theorem cut_hi {s : TSpan} {nw : Bool} (h : IU64 s.Lo ∧ IU64 s.Hi) (hle : s.Lo ≤ s.Hi) (hm : s.Hi ≤ mostI nw) : span_cut s nw = s := by
  cases nw with
  | false => rfl
  | true =>
    have hm : s.Hi ≤ 4294967295 := hm
    unfold span_cut
    simp only [Bool.not_true, Bool.false_eq_true, if_false, shr32, and_low h.1, and_low h.2]
    rw [if_neg (by simp; omega), show s.Lo % 4294967296 = s.Lo by omega, show s.Hi % 4294967296 = s.Hi by omega]
theorem cutN_hi {nw : Bool} {p : Int} (h : 0 ≤ p ∧ p ≤ mostI nw) : cutN nw p = p := by
  cases nw with
  | false => rfl
  | true => have h2 : p ≤ 4294967295 := h.2; show p % 4294967296 = p; omega
theorem If_snd {op : Int} (hop : 17 ≤ op ∧ op ≤ 27) {nw yes : Bool} {a b : TSpan} (ha : IU64 a.Lo ∧ IU64 a.Hi) (hb : IU64 b.Lo ∧ IU64 b.Hi) (hla : a.Lo ≤ a.Hi) (hlb : b.Lo ≤ b.Hi) {p q : Int} (hp : Hs a p) (hq : Hs b q) (h : isE nw op (cutN nw p) (cutN nw q) = yes) :
    (span_If op nw yes a b).2.2 = true ∧ Rt (span_If op nw yes a b).1 ∧ Rt (span_If op nw yes a b).2.1 ∧ Hs (span_If op nw yes a b).1 p ∧ Hs (span_If op nw yes a b).2.1 q ∧ Wi (span_If op nw yes a b).1 a ∧ Wi (span_If op nw yes a b).2.1 b := by
  obtain ⟨x, y, e, h1, h2, h3, h4, h5, h6⟩ := ask_snd hop (nw := nw) (yes := yes) (cut_ok ha hla) (cut_ok hb hlb) (cut_has ha hp) (cut_has hb hq) h
  rw [span_If_eq hop ha hb hla hlb, e]
  have key : ∀ (s x : TSpan) (p : Int), (IU64 s.Lo ∧ IU64 s.Hi) → s.Lo ≤ s.Hi → Hs s p → Rt x → Hs x (cutN nw p) → Wi x (span_cut s nw) → Rt (if s.Hi > mostI nw then s else x) ∧ Hs (if s.Hi > mostI nw then s else x) p ∧ Wi (if s.Hi > mostI nw then s else x) s := by
    intro s x p hs hle hp h1 h2 h3
    split
    · exact ⟨hle, hp, Int.le_refl _, Int.le_refl _⟩
    · rename_i hm
      rw [cut_hi hs hle (by omega)] at h3
      rw [cutN_hi (by have := hp.1; have := hp.2; omega)] at h2
      exact ⟨h1, h2, h3⟩
  have k1 := key a x p ha hla hp h1 h3 h5
  have k2 := key b y q hb hlb hq h2 h4 h6
  exact ⟨rfl, k1.1, k2.1, k1.2.1, k2.2.1, k1.2.2, k2.2.2⟩
theorem ask_in {op : Int} (hop : 17 ≤ op ∧ op ≤ 27) {nw yes : Bool} {u v : TSpan} (hu : SpOk nw u) (hv : SpOk nw v) (x y : TSpan) (h : askE nw op yes u v = some (x, y)) : Wi x u ∧ Wi y v := by
  have ru : Rt u := hu.le
  have rv : Rt v := hv.le
  have refl : ∀ z : TSpan, Wi z z := fun z => ⟨Int.le_refl _, Int.le_refl _⟩
  have use : ∀ {o : Option (TSpan × TSpan)}, Mon o (some (u, v)) → o = some (x, y) → Wi x u ∧ Wi y v := by
    intro o hm ho
    obtain ⟨x', y', e, f1, f2⟩ := hm x y ho
    simp only [Option.some.injEq, Prod.mk.injEq] at e
    obtain ⟨rfl, rfl⟩ := e
    exact ⟨f1, f2⟩
  have same : Mon (some (u, v)) (some (u, v)) := by
    intro x y hxy
    exact ⟨x, y, hxy, refl _, refl _⟩
  unfold askE at h
  by_cases h27 : op = 27
  · rw [if_pos h27] at h
    refine use ?_ h
    unfold setE
    split
    · split
      · intro x y hxy; cases hxy
      · exact same
    · split
      · intro x y hxy
        simp only [Option.some.injEq, Prod.mk.injEq] at hxy
        obtain ⟨rfl, rfl⟩ := hxy
        exact ⟨u, v, rfl, ⟨by show u.Lo ≤ max u.Lo 1; omega, Int.le_refl _⟩, ⟨by show v.Lo ≤ max v.Lo 1; omega, Int.le_refl _⟩⟩
      · intro x y hxy; cases hxy
  · rw [if_neg h27] at h
    have ho := oppE_rng (op := op) (by omega)
    have hq : 17 ≤ (if yes = true then op else oppE op) ∧ (if yes = true then op else oppE op) ≤ 26 := by split <;> omega
    generalize (if yes = true then op else oppE op) = o at *
    refine use ?_ h
    split
    · unfold signedE
      split
      · exact same
      · split
        · exact plain_sub (by omega) ru rv
        · split
          · exact same
          · intro x y hxy; cases hxy
    · exact plain_sub (by omega) ru rv
theorem If_mon {op : Int} (hop : 17 ≤ op ∧ op ≤ 27) {nw yes : Bool} {a b s t : TSpan} (ha : IU64 a.Lo ∧ IU64 a.Hi) (hb : IU64 b.Lo ∧ IU64 b.Hi) (hla : a.Lo ≤ a.Hi) (hlb : b.Lo ≤ b.Hi)
    (hs : IU64 s.Lo ∧ IU64 s.Hi) (ht : IU64 t.Lo ∧ IU64 t.Hi) (hls : s.Lo ≤ s.Hi) (hlt : t.Lo ≤ t.Hi) (h1 : Wi s a) (h2 : Wi t b) (hm : (span_If op nw yes s t).2.2 = true) :
    (span_If op nw yes a b).2.2 = true ∧ Wi (span_If op nw yes s t).1 (span_If op nw yes a b).1 ∧ Wi (span_If op nw yes s t).2.1 (span_If op nw yes a b).2.1 := by
  have mon := ask_mon hop (nw := nw) (yes := yes) (cut_ok (nw := nw) ha hla) (cut_ok (nw := nw) hb hlb) (cut_ok (nw := nw) hs hls).le (cut_ok (nw := nw) ht hlt).le (cut_within hs ha hls h1) (cut_within ht hb hlt h2)
  rw [span_If_eq hop hs ht hls hlt] at hm ⊢
  rw [span_If_eq hop ha hb hla hlb]
  cases e : askE nw op yes (span_cut s nw) (span_cut t nw) with
  | none => rw [e] at hm; cases hm
  | some z =>
    obtain ⟨x, y⟩ := z
    obtain ⟨x', y', e', w1, w2⟩ := mon x y e
    rw [e']
    have hsub := ask_in hop (nw := nw) (yes := yes) (cut_ok (nw := nw) hs hls) (cut_ok (nw := nw) ht hlt) x y e
    have key : ∀ (s a x x' : TSpan), (IU64 s.Lo ∧ IU64 s.Hi) → s.Lo ≤ s.Hi → Wi s a → Wi x x' → Wi x (span_cut s nw) → Wi (if s.Hi > mostI nw then s else x) (if a.Hi > mostI nw then a else x') := by
      intro s a x x' hs hle h1 h2 h3
      by_cases c1 : a.Hi > mostI nw
      · rw [if_pos c1]
        by_cases c2 : s.Hi > mostI nw
        · rw [if_pos c2]; exact h1
        · rw [if_neg c2]
          rw [cut_hi hs hle (by omega)] at h3
          exact ⟨Int.le_trans h1.1 h3.1, Int.le_trans h3.2 h1.2⟩
      · have := h1.2
        rw [if_neg c1, if_neg (by omega)]; exact h2
    exact ⟨rfl, key s a x x' hs hls h1 w1 hsub.1, key t b y y' ht hlt h2 w2 hsub.2⟩
end Go.V
