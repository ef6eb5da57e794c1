/- Texts put together. -/
import Derived.Test.YtnldbfeakocbnaaGreatId
import Derived.Test.YtnldbfeakocbnaaGreatM2
import Derived.Test.YtnldbfeakocbnaaGreatIe
/- What the program's questions leave of two spans at work: in plain words. -/
namespace Go.Y
open Go.RowKit Go.V Go.X Go.Proofs

def pP (o : Option (TSpan × TSpan)) : Unit × ((Span × Span × Unit) ⊕ (Unit × Unit)) := ((), match o with | some p => .inl (p.1, p.2, ()) | none => .inr ((), ()))
theorem pmeet_v (u v : TSpan) : spanMeet BIG u v = some (if max u.Lo v.Lo ≤ min u.Hi v.Hi then ((⟨max u.Lo v.Lo, min u.Hi v.Hi⟩ : Span), true) else ((⟨0, 0⟩ : Span), false)) := by
  rw [spanMeet_eq, right_v, obind_of, gMax_eq, gMin_eq, forkB_some]
  unfold span_Right
  by_cases h : max u.Lo v.Lo ≤ min u.Hi v.Hi
  · rw [if_pos h, show decide ((⟨max u.Lo v.Lo, min u.Hi v.Hi⟩ : TSpan).Lo ≤ (⟨max u.Lo v.Lo, min u.Hi v.Hi⟩ : TSpan).Hi) = true from decide_eq_true h]; rfl
  · rw [if_neg h, show decide ((⟨max u.Lo v.Lo, min u.Hi v.Hi⟩ : TSpan).Lo ≤ (⟨max u.Lo v.Lo, min u.Hi v.Hi⟩ : TSpan).Hi) = false from decide_eq_false h]; rfl
theorem pwithout_v {nw : Bool} (s t : TSpan) (hs : SpOk nw s) : X.span_without BIG s t = some (woE s t) := by
  obtain ⟨n, e⟩ : ∃ n : Nat, (BIG : Nat) = n + 1 + 1 := ⟨999999998, rfl⟩
  have h1 := hs.lo; have h2 := hs.le; have h3 := hs.hi; have h4 := most_le nw
  have j1 : ∀ l h : Int, X.span_without_J1 (n + 1) l h t.Lo t.Hi 0 0 = some (if h = t.Lo then ⟨l, IntKind.u64.wrap (h - 1)⟩ else ⟨l, h⟩) := fun l h => by
    rw [X.span_without_J1_eq, forkB_some]; simp only [beq_iff_eq]
  have jt : X.span_without_J0 (n + 1 + 1) true s.Lo s.Hi t.Lo t.Hi 0 0 = some s := by rw [X.span_without_J0_eq, forkB_true]
  have jf : ¬ s.Lo = s.Hi → t.Lo = t.Hi → X.span_without_J0 (n + 1 + 1) false s.Lo s.Hi t.Lo t.Hi 0 0 = some (woE s t) := fun hh ht => by
    rw [X.span_without_J0_eq, forkB_false, j1, j1]
    unfold woE
    rw [if_neg (c := s.Lo = s.Hi ∨ t.Lo ≠ t.Hi) (fun h => h.elim hh (fun h => h ht))]
    by_cases hl : s.Lo = t.Lo
    · rw [show (s.Lo == t.Lo) = true by simp [hl], forkB_true, wrapU64 (x := s.Lo + 1) (by omega), if_neg (show ¬ s.Hi = t.Lo by omega), if_pos hl, if_neg (show ¬ s.Hi = t.Lo by omega)]
    · rw [show (s.Lo == t.Lo) = false by simp [hl], forkB_false, if_neg hl]
      by_cases hr : s.Hi = t.Lo
      · rw [if_pos hr, if_pos hr, wrapU64 (x := s.Hi - 1) (by omega)]
      · rw [if_neg hr, if_neg hr]
  rw [X.span_without_eq, one_v, obind_of, one_v, obind_of, e, jt, one_iff, one_iff]
  by_cases hh : s.Lo = s.Hi
  · rw [decide_eq_true hh, forkB_true]; unfold woE; rw [if_pos (.inl hh)]
  · rw [decide_eq_false hh, forkB_false]
    by_cases ht : t.Lo = t.Hi
    · rw [decide_eq_true ht, Bool.not_true, jf hh ht]
    · rw [decide_eq_false ht, Bool.not_false, jt]; unfold woE; rw [if_pos (.inr ht)]
theorem pplain_r (op : Int) {nw : Bool} (u v : TSpan) (hop : op = 19 ∨ op = 20) (hu : SpOk nw u) (hv : SpOk nw v) : X.span_work_plain_g1_r BIG (wW nw u v) op = some (pP (if op = 19 then gtE u v else geE u v)) := by
  have h1 := hu.lo; have h2 := hu.le; have h3 := hu.hi; have h4 := most_le nw
  have g1 := hv.lo; have g2 := hv.le; have g3 := hv.hi
  rcases hop with rfl | rfl
  · rw [X.span_work_plain_g1_r_eq, show ((19 : Int) == 17) = false from rfl, show ((19 : Int) == 18) = false from rfl, show ((19 : Int) == 19) = true from rfl, forkB_false, forkB_false, forkB_true, must_v, obind_of, if_pos (show (19 : Int) = 19 from rfl), gMax_eq, gMin_eq]
    unfold gtE
    by_cases h : u.Hi > v.Lo
    · rw [if_pos h, show decide ((wW nw u v).a_Hi > (wW nw u v).b_Lo) = true from decide_eq_true h, show IntKind.u64.wrap ((wW nw u v).b_Lo + 1) = v.Lo + 1 from wrapU64 (x := v.Lo + 1) (by omega), show IntKind.u64.wrap ((wW nw u v).a_Hi - 1) = u.Hi - 1 from wrapU64 (x := u.Hi - 1) (by omega)]; rfl
    · rw [if_neg h, show decide ((wW nw u v).a_Hi > (wW nw u v).b_Lo) = false from decide_eq_false h]; rfl
  · rw [X.span_work_plain_g1_r_eq, show ((20 : Int) == 17) = false from rfl, show ((20 : Int) == 18) = false from rfl, show ((20 : Int) == 19) = false from rfl, show ((20 : Int) == 20) = true from rfl, forkB_false, forkB_false, forkB_false, forkB_true, must_v, obind_of, if_neg (show ¬ ((20 : Int) = 19) by decide), gMax_eq, gMin_eq]
    unfold geE
    by_cases h : u.Hi ≥ v.Lo
    · rw [if_pos h, show decide ((wW nw u v).a_Hi ≥ (wW nw u v).b_Lo) = true from decide_eq_true h]; rfl
    · rw [if_neg h, show decide ((wW nw u v).a_Hi ≥ (wW nw u v).b_Lo) = false from decide_eq_false h]; rfl
theorem pswap (o : Option (TSpan × TSpan)) : (match (pP o).2 with | .inl z => some ((), .inl (z.2.1, z.1, ())) | .inr _ => some ((), .inr ((), ()))) = some (pP (swapE o)) := by cases o <;> rfl
theorem psame (o : Option (TSpan × TSpan)) : (match (pP o).2 with | .inl z => some ((), .inl (z.1, z.2.1, ())) | .inr _ => some ((), .inr ((), ()))) = some (pP o) := by cases o <;> rfl
theorem turn_v (nw : Bool) (u v : TSpan) : X.span_work_turned BIG (wW nw u v) = some (wW nw v u) := by rw [X.span_work_turned_eq]; rfl
end Go.Y

/- What the program's questions leave of spans, whole. -/
namespace Go.Y
open Go.RowKit Go.V Go.X Go.Proofs

theorem hone_v (nw : Bool) (u v : TSpan) : span_work_both (tW (wW nw u v)) = decide (u.Lo = u.Hi ∧ v.Lo = v.Hi) := by
  rw [tW_wW, both_iff]
  show (decide (u.Lo = u.Hi) && decide (v.Lo = v.Hi)) = _
  by_cases a1 : u.Lo = u.Hi
  · by_cases a2 : v.Lo = v.Hi
    · rw [decide_eq_true a1, decide_eq_true a2, decide_eq_true (p := u.Lo = u.Hi ∧ v.Lo = v.Hi) ⟨a1, a2⟩]; rfl
    · rw [decide_eq_true a1, decide_eq_false a2, decide_eq_false (p := u.Lo = u.Hi ∧ v.Lo = v.Hi) (fun h => a2 h.2)]; rfl
  · rw [decide_eq_false a1, decide_eq_false (p := u.Lo = u.Hi ∧ v.Lo = v.Hi) (fun h => a1 h.1)]; rfl
theorem pplain_v (op : Int) {nw : Bool} (u v : TSpan) (hop : 17 ≤ op ∧ op ≤ 22) (hu : SpOk nw u) (hv : SpOk nw v) : X.span_work_plain_g1 BIG (wW nw u v) op = some (pP (plainE op u v)) := by
  obtain ⟨n, e⟩ : ∃ n : Nat, (BIG : Nat) = n + 1 := ⟨999999999, rfl⟩
  have h1 := hu.lo; have h2 := hu.le; have h3 := hu.hi; have h4 := most_le nw
  have g1 := hv.lo; have g2 := hv.le; have g3 := hv.hi
  rw [X.span_work_plain_g1_eq]
  unfold plainE
  by_cases k1 : op = 17
  · subst k1
    have em : spanMeet BIG (⟨(wW nw u v).a_Lo, (wW nw u v).a_Hi⟩ : Span) (⟨(wW nw u v).b_Lo, (wW nw u v).b_Hi⟩ : Span) = _ := pmeet_v u v
    rw [show ((17 : Int) == 17) = true from rfl, forkB_true, em, obind_of, must_v, obind_of, if_pos (show (17 : Int) = 17 from rfl)]
    by_cases h : max u.Lo v.Lo ≤ min u.Hi v.Hi
    · rw [if_pos h, if_pos h]; rfl
    · rw [if_neg h, if_neg h]; rfl
  rw [show (op == 17) = false by simpa using k1, forkB_false, if_neg k1]
  by_cases k2 : op = 18
  · subst k2
    have wu : X.span_without BIG (⟨u.Lo, u.Hi⟩ : Span) (⟨v.Lo, v.Hi⟩ : Span) = some (woE u v) := pwithout_v u v hu
    have wv : X.span_without BIG (⟨v.Lo, v.Hi⟩ : Span) (⟨u.Lo, u.Hi⟩ : Span) = some (woE v u) := pwithout_v v u hv
    have j0 : X.span_work_plain_g1_J0 (n + 1) (wW nw u v).a_Lo (wW nw u v).a_Hi (wW nw u v).b_Lo (wW nw u v).b_Hi (wW nw u v).narrow (wW nw u v).most (wW nw u v).size 0 0 0 0 = some (pP (some (woE u v, woE v u))) := by
      show X.span_work_plain_g1_J0 (n + 1) u.Lo u.Hi v.Lo v.Hi nw (mostI nw) (if nw then 32 else 64) 0 0 0 0 = _
      rw [X.span_work_plain_g1_J0_eq, wu, obind_of, wv, obind_of]; rfl
    rw [show ((18 : Int) == 18) = true from rfl, forkB_true, both_v, obind_of, must_v, obind_of, must_v, obind_of, e, j0, hone_v, if_pos (show (18 : Int) = 18 from rfl)]
    by_cases a : u.Lo = u.Hi ∧ v.Lo = v.Hi
    · rw [decide_eq_true a, Bool.not_true, forkB_false]
      by_cases a3 : u.Lo = v.Lo
      · rw [if_pos (c := u.Lo = u.Hi ∧ v.Lo = v.Hi ∧ u.Lo = v.Lo) ⟨a.1, a.2, a3⟩,
          show (!(((wW nw u v).a_Lo == (wW nw u v).b_Lo) && ((wW nw u v).a_Hi == (wW nw u v).b_Hi))) = false by
            show (!((u.Lo == v.Lo) && (u.Hi == v.Hi))) = false
            rw [show (u.Lo == v.Lo) = true by simp [a3], show (u.Hi == v.Hi) = true by simp; omega]; rfl]
        rfl
      · rw [if_neg (c := u.Lo = u.Hi ∧ v.Lo = v.Hi ∧ u.Lo = v.Lo) (fun h => a3 h.2.2),
          show (!(((wW nw u v).a_Lo == (wW nw u v).b_Lo) && ((wW nw u v).a_Hi == (wW nw u v).b_Hi))) = true by
            show (!((u.Lo == v.Lo) && (u.Hi == v.Hi))) = true
            rw [show (u.Lo == v.Lo) = false by simp [a3]]; rfl]
        rfl
    · rw [decide_eq_false a, Bool.not_false, forkB_true, if_neg (c := u.Lo = u.Hi ∧ v.Lo = v.Hi ∧ u.Lo = v.Lo) (fun h => a ⟨h.1, h.2.1⟩)]
      rfl
  rw [show (op == 18) = false by simpa using k2, forkB_false, if_neg k2]
  by_cases k3 : op = 19
  · subst k3
    rw [show ((19 : Int) == 19) = true from rfl, forkB_true, must_v, obind_of, if_pos (show (19 : Int) = 19 from rfl), gMax_eq, gMin_eq]
    unfold gtE
    by_cases h : u.Hi > v.Lo
    · rw [if_pos h, show decide ((wW nw u v).a_Hi > (wW nw u v).b_Lo) = true from decide_eq_true h, show IntKind.u64.wrap ((wW nw u v).b_Lo + 1) = v.Lo + 1 from wrapU64 (x := v.Lo + 1) (by omega), show IntKind.u64.wrap ((wW nw u v).a_Hi - 1) = u.Hi - 1 from wrapU64 (x := u.Hi - 1) (by omega)]; rfl
    · rw [if_neg h, show decide ((wW nw u v).a_Hi > (wW nw u v).b_Lo) = false from decide_eq_false h]; rfl
  rw [show (op == 19) = false by simpa using k3, forkB_false, if_neg k3]
  by_cases k4 : op = 20
  · subst k4
    rw [show ((20 : Int) == 20) = true from rfl, forkB_true, must_v, obind_of, if_pos (show (20 : Int) = 20 from rfl), gMax_eq, gMin_eq]
    unfold geE
    by_cases h : u.Hi ≥ v.Lo
    · rw [if_pos h, show decide ((wW nw u v).a_Hi ≥ (wW nw u v).b_Lo) = true from decide_eq_true h]; rfl
    · rw [if_neg h, show decide ((wW nw u v).a_Hi ≥ (wW nw u v).b_Lo) = false from decide_eq_false h]; rfl
  rw [show (op == 20) = false by simpa using k4, forkB_false, if_neg k4]
  by_cases k5 : op = 21
  · subst k5
    rw [show ((21 : Int) == 21) = true from rfl, forkB_true, turn_v, obind_of, pplain_r 19 v u (.inl rfl) hv hu, obind_of, if_pos (show (21 : Int) = 21 from rfl)]
    exact pswap _
  · rw [show (op == 21) = false by simpa using k5, forkB_false, show (op == 22) = true by simp; omega, forkB_true, turn_v, obind_of, pplain_r 20 v u (.inr rfl) hv hu, obind_of, if_neg k5]
    exact pswap _
theorem pset_v (yes : Bool) {nw : Bool} (u v : TSpan) (hu : SpOk nw u) (hv : SpOk nw v) : X.span_work_set_g1 BIG (wW nw u v) yes = some (pP (setE yes u v)) := by
  obtain ⟨n, e⟩ : ∃ n : Nat, (BIG : Nat) = n + 1 := ⟨999999999, rfl⟩
  have h1 := hu.lo; have h2 := hu.le; have g1 := hv.lo; have g2 := hv.le
  have e0 : (bAnd .u64 (wW nw u v).a_Lo (wW nw u v).b_Lo != (0 : Int)) = !(decide (u.Lo.toNat &&& v.Lo.toNat = 0)) := by
    rw [show bAnd .u64 (wW nw u v).a_Lo (wW nw u v).b_Lo = ((u.Lo.toNat &&& v.Lo.toNat : Nat) : Int) from bAnd64 hu.u.1 hv.u.1]
    by_cases k : u.Lo.toNat &&& v.Lo.toNat = 0
    · rw [k]; rfl
    · rw [decide_eq_false k]; simp; omega
  have j0 : X.span_work_set_g1_J0 (n + 1) (wW nw u v).a_Lo (wW nw u v).a_Hi (wW nw u v).b_Lo (wW nw u v).b_Hi (wW nw u v).narrow (wW nw u v).most (wW nw u v).size 0 0 0 0 = some (pP (some (u, v))) := by rw [X.span_work_set_g1_J0_eq]; rfl
  have j1 : X.span_work_set_g1_J1 (n + 1) (wW nw u v).a_Lo (wW nw u v).a_Hi (wW nw u v).b_Lo (wW nw u v).b_Hi (wW nw u v).narrow (wW nw u v).most (wW nw u v).size 0 0 0 0 = some (pP (some (⟨max u.Lo 1, u.Hi⟩, ⟨max v.Lo 1, v.Hi⟩))) := by rw [X.span_work_set_g1_J1_eq, gMax_eq, gMax_eq]; rfl
  rw [X.span_work_set_g1_eq, both_v, obind_of, must_v, obind_of, must_v, obind_of, must_v, obind_of, must_v, obind_of, e, j0, j1, e0, hone_v]
  unfold setE
  cases yes with
  | false =>
    rw [Bool.not_false, forkB_true, if_pos (show false = false from rfl)]
    by_cases a : u.Lo = u.Hi ∧ v.Lo = v.Hi
    · rw [decide_eq_true a, Bool.not_true, forkB_false]
      by_cases k : u.Lo.toNat &&& v.Lo.toNat = 0
      · rw [if_neg (c := u.Lo = u.Hi ∧ v.Lo = v.Hi ∧ u.Lo.toNat &&& v.Lo.toNat ≠ 0) (fun h => h.2.2 k), decide_eq_true k]; rfl
      · rw [if_pos (c := u.Lo = u.Hi ∧ v.Lo = v.Hi ∧ u.Lo.toNat &&& v.Lo.toNat ≠ 0) ⟨a.1, a.2, k⟩, decide_eq_false k]; rfl
    · rw [decide_eq_false a, Bool.not_false, forkB_true, if_neg (c := u.Lo = u.Hi ∧ v.Lo = v.Hi ∧ u.Lo.toNat &&& v.Lo.toNat ≠ 0) (fun h => a ⟨h.1, h.2.1⟩)]; rfl
  | true =>
    rw [Bool.not_true, forkB_false, if_neg (show ¬ (true = false) by decide)]
    by_cases k1 : u.Hi > 0
    · rw [show decide ((wW nw u v).a_Hi > 0) = true from decide_eq_true k1, forkB_true]
      by_cases k2 : v.Hi > 0
      · rw [show decide ((wW nw u v).b_Hi > 0) = true from decide_eq_true k2, forkB_true]
        by_cases a : u.Lo = u.Hi ∧ v.Lo = v.Hi
        · rw [decide_eq_true a, Bool.not_true, forkB_false]
          by_cases k : u.Lo.toNat &&& v.Lo.toNat = 0
          · rw [if_neg (c := u.Hi > 0 ∧ v.Hi > 0 ∧ ¬ (u.Lo = u.Hi ∧ v.Lo = v.Hi ∧ u.Lo.toNat &&& v.Lo.toNat = 0)) (fun h => h.2.2 ⟨a.1, a.2, k⟩), decide_eq_true k]; rfl
          · rw [if_pos (c := u.Hi > 0 ∧ v.Hi > 0 ∧ ¬ (u.Lo = u.Hi ∧ v.Lo = v.Hi ∧ u.Lo.toNat &&& v.Lo.toNat = 0)) ⟨k1, k2, fun h => k h.2.2⟩, decide_eq_false k]; rfl
        · rw [decide_eq_false a, Bool.not_false, forkB_true, if_pos (c := u.Hi > 0 ∧ v.Hi > 0 ∧ ¬ (u.Lo = u.Hi ∧ v.Lo = v.Hi ∧ u.Lo.toNat &&& v.Lo.toNat = 0)) ⟨k1, k2, fun h => a ⟨h.1, h.2.1⟩⟩]; rfl
      · rw [show decide ((wW nw u v).b_Hi > 0) = false from decide_eq_false k2, forkB_false, if_neg (c := u.Hi > 0 ∧ v.Hi > 0 ∧ ¬ (u.Lo = u.Hi ∧ v.Lo = v.Hi ∧ u.Lo.toNat &&& v.Lo.toNat = 0)) (fun h => k2 h.2.1)]; rfl
    · rw [show decide ((wW nw u v).a_Hi > 0) = false from decide_eq_false k1, forkB_false, if_neg (c := u.Hi > 0 ∧ v.Hi > 0 ∧ ¬ (u.Lo = u.Hi ∧ v.Lo = v.Hi ∧ u.Lo.toNat &&& v.Lo.toNat = 0)) (fun h => k1 h.1)]; rfl
theorem pneg (nw : Bool) (u v : TSpan) (x : Int) (h : 0 ≤ x ∧ x ≤ mostI nw) : X.span_work_below BIG (wW nw u v) x = some (negB nw x) := by rw [below_v, tW_wW, below_eq h]; rfl
theorem pmix (nw : Bool) (u v s : TSpan) (hs : SpOk nw s) : X.span_work_mixed BIG (wW nw u v) s = some (negB nw s.Lo != negB nw s.Hi) := by rw [mixed_v, tW_wW, mixed_eq hs]; rfl
theorem psigned_v (op : Int) {nw : Bool} (u v : TSpan) (hop : 23 ≤ op ∧ op ≤ 26) (hu : SpOk nw u) (hv : SpOk nw v) : X.span_work_signed_g1 BIG (wW nw u v) op = some (pP (signedE nw op u v)) := by
  obtain ⟨n, e⟩ : ∃ n : Nat, (BIG : Nat) = n + 1 := ⟨999999999, rfl⟩
  have h1 := hu.lo; have h2 := hu.le; have h3 := hu.hi; have h4 := most_le nw
  have g1 := hv.lo; have g2 := hv.le; have g3 := hv.hi
  have mu : X.span_work_mixed BIG (wW nw u v) (⟨(wW nw u v).a_Lo, (wW nw u v).a_Hi⟩ : Span) = some (negB nw u.Lo != negB nw u.Hi) := pmix nw u v u hu
  have mv : X.span_work_mixed BIG (wW nw u v) (⟨(wW nw u v).b_Lo, (wW nw u v).b_Hi⟩ : Span) = some (negB nw v.Lo != negB nw v.Hi) := pmix nw u v v hv
  have bu : X.span_work_below BIG (wW nw u v) u.Lo = some (negB nw u.Lo) := pneg nw u v u.Lo (by omega)
  have bv : X.span_work_below BIG (wW nw u v) v.Lo = some (negB nw v.Lo) := pneg nw u v v.Lo (by omega)
  have jt : X.span_work_signed_g1_J0 (n + 1) op true u.Lo u.Hi v.Lo v.Hi nw (mostI nw) (wW nw u v).size 0 0 0 0 = some (pP (some (u, v))) := by rw [X.span_work_signed_g1_J0_eq, forkB_true]; rfl
  have ew : IntKind.u8.wrap (IntKind.u8.wrap (op - 23) + 19) = op - 4 := by rw [wrapU8_eq, wrapU8_eq]; omega
  have jf : X.span_work_signed_g1_J0 (n + 1) op false u.Lo u.Hi v.Lo v.Hi nw (mostI nw) (wW nw u v).size 0 0 0 0 = some (pP (if negB nw u.Lo = negB nw v.Lo then plainE (op - 4) u v else if (op = 23 ∨ op = 24) ↔ negB nw v.Lo = true then some (u, v) else none)) := by
    have ep : X.span_work_plain_g1 BIG (wW nw u v) (op - 4) = some (pP (plainE (op - 4) u v)) := pplain_v (op - 4) u v (by omega) hu hv
    rw [X.span_work_signed_g1_J0_eq, forkB_false, ew]
    show obind (X.span_work_below BIG (wW nw u v) u.Lo) (fun y1 => obind (X.span_work_below BIG (wW nw u v) v.Lo) (fun y2 => forkB (y1 == y2) (obind (X.span_work_plain_g1 BIG (wW nw u v) (op - 4)) _) (forkB (op == 23) (obind (X.span_work_below BIG (wW nw u v) v.Lo) _) (obind (X.span_work_below BIG (wW nw u v) v.Lo) _)))) = _
    rw [bu, obind_of, bv, obind_of, ep, obind_of, obind_of, obind_of]
    by_cases a3 : negB nw u.Lo = negB nw v.Lo
    · rw [show (negB nw u.Lo == negB nw v.Lo) = true by simp [a3], forkB_true, if_pos a3]; exact psame _
    · rw [show (negB nw u.Lo == negB nw v.Lo) = false by simp [a3], forkB_false, if_neg a3, must_v, obind_of, must_v, obind_of]
      by_cases k : op = 23
      · subst k
        cases hx : negB nw v.Lo <;> rfl
      · rw [show (op == 23) = false by simpa using k, forkB_false]
        by_cases k2 : op = 24
        · subst k2
          cases hx : negB nw v.Lo <;> rfl
        · rw [show (op == 24) = false by simpa using k2]
          cases hx : negB nw v.Lo with
          | true => rw [if_neg (c := (op = 23 ∨ op = 24) ↔ true = true) (fun h => by have := h.2 rfl; omega)]; rfl
          | false => rw [if_pos (c := (op = 23 ∨ op = 24) ↔ false = true) ⟨fun h => by omega, fun h => by cases h⟩]; rfl
  rw [X.span_work_signed_g1_eq, mu, obind_of, mv, obind_of, e]
  show forkB _ (X.span_work_signed_g1_J0 (n + 1) op true u.Lo u.Hi v.Lo v.Hi nw (mostI nw) (wW nw u v).size 0 0 0 0) (X.span_work_signed_g1_J0 (n + 1) op _ u.Lo u.Hi v.Lo v.Hi nw (mostI nw) (wW nw u v).size 0 0 0 0) = _
  rw [jt]
  unfold signedE
  by_cases a1 : negB nw u.Lo = negB nw u.Hi
  · by_cases a2 : negB nw v.Lo = negB nw v.Hi
    · rw [show (negB nw u.Lo != negB nw u.Hi) = false by simp [a1], show (negB nw v.Lo != negB nw v.Hi) = false by simp [a2], forkB_false, jf, if_neg (c := negB nw u.Lo ≠ negB nw u.Hi ∨ negB nw v.Lo ≠ negB nw v.Hi) (fun h => h.elim (fun h => h a1) (fun h => h a2))]
    · rw [show (negB nw u.Lo != negB nw u.Hi) = false by simp [a1], show (negB nw v.Lo != negB nw v.Hi) = true by simp [a2], forkB_false, jt, if_pos (.inr a2)]
  · rw [show (negB nw u.Lo != negB nw u.Hi) = true by simp [a1], forkB_true, if_pos (.inl a1)]
end Go.Y

/- The program's questions, whole; what any operator makes of spans, and what any question leaves of them, is what the document tells. -/
namespace Go.Y
open Go.RowKit Go.V Go.X Go.Proofs

theorem pask_v (op : Int) (yes : Bool) {nw : Bool} (u v : TSpan) (hop : 17 ≤ op ∧ op ≤ 27) (hu : SpOk nw u) (hv : SpOk nw v) : X.span_work_ask_g1 BIG (wW nw u v) op yes = some (pP (askE nw op yes u v)) := by
  obtain ⟨n, e⟩ : ∃ n : Nat, (BIG : Nat) = n + 1 := ⟨999999999, rfl⟩
  have j0 : ∀ p : Int, 17 ≤ p ∧ p ≤ 26 → X.span_work_ask_g1_J0 (n + 1) p (wW nw u v).a_Lo (wW nw u v).a_Hi (wW nw u v).b_Lo (wW nw u v).b_Hi (wW nw u v).narrow (wW nw u v).most (wW nw u v).size 0 0 0 0 = some (pP (if p ≥ 23 then signedE nw p u v else plainE p u v)) := fun p hp => by
    rw [X.span_work_ask_g1_J0_eq]
    show forkB (decide (p ≥ 23)) (obind (X.span_work_signed_g1 BIG (wW nw u v) p) _) (obind (X.span_work_plain_g1 BIG (wW nw u v) p) _) = _
    by_cases k : p ≥ 23
    · rw [decide_eq_true k, forkB_true, psigned_v p u v (by omega) hu hv, obind_of, if_pos k]; exact psame _
    · rw [decide_eq_false k, forkB_false, pplain_v p u v (by omega) hu hv, obind_of, if_neg k]; exact psame _
  rw [X.span_work_ask_g1_eq, e]
  unfold askE
  by_cases k : op = 27
  · rw [show (op == 27) = true by simp [k], forkB_true, ← e, pset_v yes u v hu hv, obind_of, if_pos k]; exact psame _
  · rw [show (op == 27) = false by simp [k], forkB_false, if_neg k]
    cases yes with
    | true => rw [Bool.not_true, forkB_false, j0 op (by omega)]; rfl
    | false =>
      have ho := oppE_rng (op := op) (by omega)
      rw [Bool.not_false, forkB_true, X.span_opposites_g1_eq, obind_of, if_pos (by omega)]
      have hg : ([0, 0, 0, 0, 0, 0, 0, 0, 0, 0, 0, 0, 0, 0, 0, 0, 0, 18, 17, 22, 21, 20, 19, 26, 25, 24, 23, 27] : List Int).getD op.toNat 0 = oppE op := by
        have hh : op = 17 ∨ op = 18 ∨ op = 19 ∨ op = 20 ∨ op = 21 ∨ op = 22 ∨ op = 23 ∨ op = 24 ∨ op = 25 ∨ op = 26 := by omega
        rcases hh with rfl | rfl | rfl | rfl | rfl | rfl | rfl | rfl | rfl | rfl <;> rfl
      show X.span_work_ask_g1_J0 (n + 1) (([0, 0, 0, 0, 0, 0, 0, 0, 0, 0, 0, 0, 0, 0, 0, 0, 0, 18, 17, 22, 21, 20, 19, 26, 25, 24, 23, 27] : List Int).getD op.toNat 0) (wW nw u v).a_Lo (wW nw u v).a_Hi (wW nw u v).b_Lo (wW nw u v).b_Hi (wW nw u v).narrow (wW nw u v).most (wW nw u v).size 0 0 0 0 = _
      rw [hg, j0 _ (by omega)]; rfl
theorem pif_v (op : Int) (nw yes : Bool) (a b : TSpan) (ha : IU64 a.Lo ∧ IU64 a.Hi) (hb : IU64 b.Lo ∧ IU64 b.Hi) : X.spanIf_g1 BIG op nw yes a b = some ((), ((ifE op nw yes a b).1, (ifE op nw yes a b).2.1, (ifE op nw yes a b).2.2, ())) := by
  obtain ⟨n, e⟩ : ∃ n : Nat, (BIG : Nat) = n + 1 := ⟨999999999, rfl⟩
  rw [X.spanIf_g1_eq, right_v, obind_of, right_v, obind_of, over_v, obind_of, e]
  unfold ifE
  by_cases h1 : op < 17
  · rw [decide_eq_true h1, forkB_true, if_neg (fun h => by have := h.1.1; omega)]
  rw [decide_eq_false h1, forkB_false]
  by_cases h2 : op > 27
  · rw [decide_eq_true h2, forkB_true, if_neg (fun h => by have := h.1.2; omega)]
  rw [decide_eq_false h2, forkB_false]
  by_cases h3 : a.Lo ≤ a.Hi
  · rw [show span_Right a = true from decide_eq_true h3, Bool.not_true, forkB_false]
    by_cases h4 : b.Lo ≤ b.Hi
    · rw [show span_Right b = true from decide_eq_true h4, Bool.not_true, forkB_false, if_pos ⟨by omega, h3, h4⟩, ← e, pask_v op yes _ _ (by omega) (cut_ok ha h3) (cut_ok hb h4), obind_of, e]
      cases askE nw op yes (span_cut a nw) (span_cut b nw) with
      | none => show obind (X.spanIf_1_d1 0 0 0 0 false) _ = _; rw [X.spanIf_1_d1_eq, obind_of]; rfl
      | some p =>
        have j0 : ∀ x : TSpan, X.spanIf_g1_J0 (n + 1) x.Lo x.Hi p.2.Lo p.2.Hi false b.Lo b.Hi (span_cut a nw).Lo (span_cut a nw).Hi (span_cut b nw).Lo (span_cut b nw).Hi nw (mostI nw) (if nw then 32 else 64) = some ((), (x, if b.Hi > mostI nw then b else p.2, true, ())) := fun x => by
          rw [X.spanIf_g1_J0_eq, X.spanIf_1_d2_eq, obind_of, X.spanIf_1_d2_eq, obind_of]
          by_cases k : b.Hi > mostI nw
          · rw [decide_eq_true k, if_pos k]; rfl
          · rw [decide_eq_false k, if_neg k]; rfl
        show forkB (decide (a.Hi > mostI nw)) (X.spanIf_g1_J0 (n + 1) a.Lo a.Hi p.2.Lo p.2.Hi false b.Lo b.Hi (span_cut a nw).Lo (span_cut a nw).Hi (span_cut b nw).Lo (span_cut b nw).Hi nw (mostI nw) (if nw then 32 else 64)) (X.spanIf_g1_J0 (n + 1) p.1.Lo p.1.Hi p.2.Lo p.2.Hi false b.Lo b.Hi (span_cut a nw).Lo (span_cut a nw).Hi (span_cut b nw).Lo (span_cut b nw).Hi nw (mostI nw) (if nw then 32 else 64)) = _
        rw [j0, j0]
        unfold finE
        by_cases k : a.Hi > mostI nw
        · rw [decide_eq_true k]; simp only [if_pos k]; rfl
        · rw [decide_eq_false k]; simp only [if_neg k]; rfl
    · rw [show span_Right b = false from decide_eq_false h4, Bool.not_false, forkB_true, if_neg (fun h => h4 h.2.2)]
  · rw [show span_Right a = false from decide_eq_false h3, Bool.not_false, forkB_true, if_neg (fun h => h3 h.2.1)]
theorem does_true (op : Int) (nw : Bool) (a b : TSpan) (ha : IU64 a.Lo ∧ IU64 a.Hi) (hb : IU64 b.Lo ∧ IU64 b.Hi) : law11_does BIG op nw a b = some true := by
  rw [law11_does_eq, do_v op nw a b ha hb, obind_of, rdo_v op nw a b ha hb, obind_of, Do_same ha hb]
  simp
theorem asks_true (op : Int) (nw yes : Bool) (a b : TSpan) (ha : IU64 a.Lo ∧ IU64 a.Hi) (hb : IU64 b.Lo ∧ IU64 b.Hi) : law11_asks BIG op nw yes a b = some true := by
  rw [law11_asks_eq, pif_v op nw yes a b ha hb, obind_of, rif_v op nw yes a b ha hb, obind_of]
  simp [forkB_true]
set_option maxRecDepth 100000 in
theorem awake11 : law11_awake BIG = some true := by kernel_rfl
theorem spanDoes_true (op : Int) (nw yes : Bool) (a b : TSpan) (ha : IU64 a.Lo ∧ IU64 a.Hi) (hb : IU64 b.Lo ∧ IU64 b.Hi) : law11SpanDoes BIG op nw yes a b = some true := by
  rw [law11SpanDoes_eq, does_true op nw a b ha hb, obind_of, forkB_true, asks_true op nw yes a b ha hb, obind_of, forkB_true, awake11, obind_of]
end Go.Y

/- The law SpanNumbers: spans whose ends lie where something turns. -/
namespace Go.Y
open Go.RowKit Go.V Go.X Go.Proofs
theorem iterE {α : Type} (f : Nat → Nat → Option α) (c len : Nat) (hstep : ∀ n k, k < len → f (n + c) k = f n (k + 1)) : ∀ m k n, k + m = len → f (n + c * m) k = f n len
  | 0, k, n, hk => by
    have : k = len := by omega
    subst this; rfl
  | m + 1, k, n, hk => by
    rw [Nat.mul_succ, ← Nat.add_assoc, hstep (n + c * m) k (by omega)]
    exact iterE f c len hstep m (k + 1) n (by omega)
def IS (s : TSpan) : Prop := IU64 s.Lo ∧ IU64 s.Hi
def AS (r : List Span) : Prop := ∀ s ∈ r, IS s
theorem AS.at {r : List Span} (h : AS r) {k : Nat} (hk : k < r.length) : IS (r.getD k dSpan) := by
  rw [List.getD_eq_getElem?_getD, List.getElem?_eq_getElem hk]
  exact h _ (List.getElem_mem hk)
theorem num_L4 {r : List Span} (hr : AS r) (a b : Nat) (ha : a < r.length) (hb : b < r.length) (op : Int) (n k : Nat) (hk : k < 4) :
    law11SpanNumbers_L4 (n + 1 + 1) (a : Int) (b : Int) op (k : Int) r = law11SpanNumbers_L4 n (a : Int) (b : Int) op ((k + 1 : Nat) : Int) r := by
  have hA := hr.at ha
  have hB := hr.at hb
  have ca : (0 : Int) ≤ (a : Int) ∧ (a : Int) < ((r.length : Nat) : Int) := by omega
  have cb : (0 : Int) ≤ (b : Int) ∧ (b : Int) < ((r.length : Nat) : Int) := by omega
  have j5 : law11SpanNumbers_J5 (n + 1) (a : Int) (b : Int) op (k : Int) false r = law11SpanNumbers_L4 n (a : Int) (b : Int) op ((k + 1 : Nat) : Int) r := by
    rw [law11SpanNumbers_J5_eq, forkB_false, wrap64 (by omega), show (k : Int) + 1 = ((k + 1 : Nat) : Int) by omega]
  rw [law11SpanNumbers_L4_eq, decide_eq_true (show (k : Int) < 4 by omega), forkB_true, if_pos ca, if_pos cb]
  simp only [Int.toNat_natCast]
  rw [does_true _ _ _ _ hA hB, asks_true _ _ _ _ _ hA hB]
  simp only [obind_of, Bool.not_true, forkB_false, if_pos ca, if_pos cb, j5]
  cases decide ((k : Int) < 2) <;> rfl
theorem num_L3 {r : List Span} (hr : AS r) (a b : Nat) (ha : a < r.length) (hb : b < r.length) (n k : Nat) (hk : k < 30) :
    law11SpanNumbers_L3 (n + 10) (a : Int) (b : Int) (k : Int) r = law11SpanNumbers_L3 n (a : Int) (b : Int) ((k + 1 : Nat) : Int) r := by
  have h := iterE (fun n j => law11SpanNumbers_L4 n (a : Int) (b : Int) (k : Int) ((j : Nat) : Int) r) 2 4 (fun n j hj => num_L4 hr a b ha hb (k : Int) n j hj) 4 0 (n + 1) (by omega)
  have h : law11SpanNumbers_L4 (n + 1 + 2 * 4) (a : Int) (b : Int) (k : Int) 0 r = law11SpanNumbers_L4 (n + 1) (a : Int) (b : Int) (k : Int) 4 r := h
  show law11SpanNumbers_L3 (n + 1 + 2 * 4 + 1) (a : Int) (b : Int) (k : Int) r = _
  rw [law11SpanNumbers_L3_eq, decide_eq_true (show (k : Int) < 30 by omega), forkB_true, h, law11SpanNumbers_L4_eq, decide_eq_false (by decide), forkB_false]
  have e : IntKind.u8.wrap ((k : Int) + 1) = ((k + 1 : Nat) : Int) := by
    unfold IntKind.wrap; simp [IntKind.bits, IntKind.signed]; omega
  rw [e]
theorem num_L2 {r : List Span} (hr : AS r) (hl : r.length ≤ 1000) (a : Nat) (ha : a < r.length) (n k : Nat) (hk : k < r.length) :
    law11SpanNumbers_L2 (n + 302) (a : Int) (k : Int) r = law11SpanNumbers_L2 n (a : Int) ((k + 1 : Nat) : Int) r := by
  have h := iterE (fun n j => law11SpanNumbers_L3 n (a : Int) (k : Int) ((j : Nat) : Int) r) 10 30 (fun n j hj => num_L3 hr a k ha hk n j hj) 30 0 (n + 1) (by omega)
  have h : law11SpanNumbers_L3 (n + 1 + 10 * 30) (a : Int) (k : Int) 0 r = law11SpanNumbers_L3 (n + 1) (a : Int) (k : Int) 30 r := h
  show law11SpanNumbers_L2 (n + 1 + 10 * 30 + 1) (a : Int) (k : Int) r = _
  rw [law11SpanNumbers_L2_eq, decide_eq_true (by omega), forkB_true, h, law11SpanNumbers_L3_eq, decide_eq_false (by decide), forkB_false, wrap64 (by omega), show (k : Int) + 1 = ((k + 1 : Nat) : Int) by omega]
theorem num_L1 {r : List Span} (hr : AS r) (hl : r.length ≤ 1000) (n k : Nat) (hk : k < r.length) :
    law11SpanNumbers_L1 (n + (302 * r.length + 2)) (k : Int) r = law11SpanNumbers_L1 n ((k + 1 : Nat) : Int) r := by
  have h := iterE (fun n j => law11SpanNumbers_L2 n (k : Int) ((j : Nat) : Int) r) 302 r.length (fun n j hj => num_L2 hr hl k hk n j hj) r.length 0 (n + 1) (by omega)
  have h : law11SpanNumbers_L2 (n + 1 + 302 * r.length) (k : Int) 0 r = law11SpanNumbers_L2 (n + 1) (k : Int) ((r.length : Nat) : Int) r := h
  rw [show n + (302 * r.length + 2) = n + 1 + 302 * r.length + 1 by omega, law11SpanNumbers_L1_eq, decide_eq_true (by omega), forkB_true, h, law11SpanNumbers_L2_eq, decide_eq_false (by omega), forkB_false, wrap64 (by omega), show (k : Int) + 1 = ((k + 1 : Nat) : Int) by omega]
set_option maxRecDepth 100000 in
theorem tells11 : law11SpanTells BIG ⟨5, 4⟩ ⟨9, 1⟩ 4 true = some true := by kernel_rfl
theorem num_end {r : List Span} (n : Nat) : law11SpanNumbers_L1 (n + 1) ((r.length : Nat) : Int) r = some true := by
  have q : ∀ {s : TSpan}, 0 ≤ s.Lo ∧ s.Lo ≤ 100 → 0 ≤ s.Hi ∧ s.Hi ≤ 100 → IU64 s.Lo ∧ IU64 s.Hi := fun h1 h2 => ⟨⟨h1.1, by omega⟩, ⟨h2.1, by omega⟩⟩
  have h54 : IU64 (⟨5, 4⟩ : TSpan).Lo ∧ IU64 (⟨5, 4⟩ : TSpan).Hi := ⟨by decide, by decide⟩
  have h11 : IU64 (⟨1, 1⟩ : TSpan).Lo ∧ IU64 (⟨1, 1⟩ : TSpan).Hi := ⟨by decide, by decide⟩
  rw [law11SpanNumbers_L1_eq, decide_eq_false (by omega), forkB_false, law11_of_eq, obind_of, law11_of_eq, obind_of, tells11, obind_of, forkB_true, obind_of, law11_of_eq, obind_of, spanDoes_true _ _ _ _ _ h54 h11, obind_of, forkB_true, obind_of, obind_of, spanDoes_true _ _ _ _ _ h11 h54, obind_of, forkB_true, awake11, obind_of]
def endsL : List Int := [0, 1, 2, 31, 32, 63, 64, 2147483647, 2147483648, 4294967294, 4294967295, 4294967296, 4294967297, 9223372036854775807, 9223372036854775808, 18446744073709551614, 18446744073709551615]
theorem endsL_ok (k : Nat) : IU64 (endsL.getD k 0) := by
  by_cases h : k < 17
  · exact (show ∀ k : Fin 17, IU64 (endsL.getD k.1 0) by decide) ⟨k, h⟩
  · rw [List.getD_eq_getElem?_getD, List.getElem?_eq_none (by show 17 ≤ k; omega)]; decide
theorem num_L0 : ∀ (m k n : Nat) (r : List Span), k + m = 17 → AS r → r.length = 4 * k → ∃ r', AS r' ∧ r'.length = 68 ∧ law11SpanNumbers_L0 (n + m + 1) (k : Int) endsL r = law11SpanNumbers_L1 n 0 r'
  | 0, k, n, r, hk, hr, hl => by
    refine ⟨r, hr, by omega, ?_⟩
    rw [law11SpanNumbers_L0_eq, show endsL.length = 17 from rfl, decide_eq_false (by omega), forkB_false]
  | m + 1, k, n, r, hk, hr, hl => by
    have hlen : endsL.length = 17 := rfl
    have g : ∀ d : Int, 0 ≤ d ∧ d ≤ 10 → 0 ≤ gMin (IntKind.i64.wrap ((k : Int) + d)) (IntKind.i64.wrap ((17 : Nat) - 1)) ∧ gMin (IntKind.i64.wrap ((k : Int) + d)) (IntKind.i64.wrap ((17 : Nat) - 1)) < ((17 : Nat) : Int) := fun d hd => by
      rw [wrap64 (by omega), wrap64 (by omega)]
      have := gMin_rng (x := (k : Int) + d) (y := ((17 : Nat) : Int) - 1) (l := 0) (m := 100) (by omega) (by omega)
      refine ⟨this.1, ?_⟩
      unfold gMin; split <;> omega
    have ck : (0 : Int) ≤ (k : Int) ∧ (k : Int) < ((17 : Nat) : Int) := by omega
    have cd : (0 : Int) ≤ IntKind.i64.wrap ((k : Int).tdiv 2) ∧ IntKind.i64.wrap ((k : Int).tdiv 2) < ((17 : Nat) : Int) := by
      rw [Int.tdiv_eq_ediv_of_nonneg (by omega), wrap64 (by omega)]; omega
    rw [law11SpanNumbers_L0_eq, hlen, decide_eq_true ck.2, forkB_true, if_pos ck, if_pos ck, law11_of_eq, obind_of, if_pos ck, if_pos (g 1 (by omega)), law11_of_eq, obind_of, if_pos ck, if_pos (g 4 (by omega)), law11_of_eq, obind_of, if_pos cd, if_pos ck, law11_of_eq, obind_of, if_pos (by omega), wrap64 (x := (k : Int) + 1) (by omega), show (k : Int) + 1 = ((k + 1 : Nat) : Int) by omega]
    refine num_L0 m (k + 1) n _ (by omega) (fun s hs => ?_) (by rw [List.length_append, hl]; simp; omega)
    rcases List.mem_append.1 hs with hs | hs
    · exact hr s hs
    · simp only [List.mem_cons, List.not_mem_nil, or_false] at hs
      rcases hs with h | h | h | h <;> subst h <;> exact ⟨endsL_ok _, endsL_ok _⟩
theorem spanNumbers_true : law11SpanNumbers BIG = some true := by
  obtain ⟨n, e⟩ : ∃ n : Nat, (BIG : Nat) = n + 17 + 1 := ⟨999999982, rfl⟩
  have hn : n = 999999982 := by have h : (1000000000 : Nat) = n + 17 + 1 := e; omega
  obtain ⟨r, h1, h2, h3⟩ := num_L0 17 0 n [] (by omega) (fun s h => absurd h List.not_mem_nil) rfl
  rw [law11SpanNumbers_eq, law11_ends_eq, obind_of]
  have h3 : law11SpanNumbers_L0 (n + 17 + 1) 0 endsL [] = law11SpanNumbers_L1 n 0 r := h3
  rw [← e] at h3
  refine Eq.trans h3 ?_
  have h4 := iterE (fun n j => law11SpanNumbers_L1 n ((j : Nat) : Int) r) (302 * r.length + 2) r.length (fun n j hj => num_L1 h1 (by omega) n j hj) r.length 0 (n - (302 * r.length + 2) * r.length) (by omega)
  rw [h2] at h4
  rw [show n - (302 * 68 + 2) * 68 + (302 * 68 + 2) * 68 = n by omega] at h4
  refine Eq.trans h4 ?_
  obtain ⟨n', e'⟩ : ∃ n', n - (302 * 68 + 2) * 68 = n' + 1 := ⟨n - (302 * 68 + 2) * 68 - 1, by omega⟩
  rw [e']
  have := num_end (r := r) n'
  rw [h2] at this
  exact this
end Go.Y
