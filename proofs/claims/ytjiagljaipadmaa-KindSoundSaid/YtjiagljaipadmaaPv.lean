import Derived.Test.YtjiagljaipadmaaProg
import Derived.Test.YtjiagljaipadmaaLv
import Derived.Test.YtjiagljaipadmaaPa
import Derived.Test.YtjiagljaipadmaaMo
namespace Go.V
open Go.RowKit Go.Proofs
theorem right_iff (a : TKnown) : kind_Right a = true ↔ ((a.Kind = 4 ∨ a.Kind = 0) ∧ a.In.Lo = 0 ∧ a.In.Hi = 0) ∨ ((a.Kind = 1 ∨ a.Kind = 2) ∧ a.In.Lo ≤ a.In.Hi) ∨ (a.Kind = 3 ∧ a.In.Lo = a.In.Hi) := by
  simp only [kind_Right, span_Right, span_Of, letF_def]
  grind
theorem holds_iff (a : TKnown) (k n len : Int) : kind_Holds a k n len = true ↔ kind_Right a = true ∧ (a.Kind = 0 ∨ (a.Kind = 4 ∧ k = 1 ∧ 0 ≤ len ∧ n = IntKind.u64.wrap len) ∨ (a.Kind ≠ 0 ∧ a.Kind ≠ 4 ∧ k = a.Kind ∧ a.In.Lo ≤ n ∧ n ≤ a.In.Hi)) := by
  simp only [kind_Holds, span_Has, letF_def]
  grind
theorem nought_no {y : TSpan} {nw : Bool} {n : Int} (hn : IU64 n) (hy : y.Lo ≤ n ∧ n ≤ y.Hi) (h : kind_nought y nw = false) : cutN nw n ≠ 0 := by
  simp only [kind_nought, span_Has, span_Within, span_All, letF_def] at h
  cases nw with
  | false => simp at h; show n ≠ 0; omega
  | true => simp at h; show n % 4294967296 ≠ 0; omega
theorem mov_any {nw : Bool} {m n : Int} (hm : IU64 m) (hn : IU64 n) : alu_Do 12 nw m n = alu_Do 12 nw n n := by
  rw [alu_Do_eq (by omega) hm hn, alu_Do_eq (by omega) hn hn]; rfl
theorem neg_any {nw : Bool} {m n : Int} (hm : IU64 m) (hn : IU64 n) : alu_Do 13 nw m n = alu_Do 13 nw m m := by
  rw [alu_Do_eq (by omega) hm hn, alu_Do_eq (by omega) hm hm]; rfl
theorem alu_fine {op : Int} (hop : 1 ≤ op ∧ op ≤ 13) {nw : Bool} {m n : Int} (hm : IU64 m) (hn : IU64 n) (h : op = 4 ∨ op = 5 → cutN nw n ≠ 0) : (alu_Do op nw m n).2 = 0 := by
  rw [alu_Do_eq hop hm hn]
  unfold aluE
  have hh : op = 1 ∨ op = 2 ∨ op = 3 ∨ op = 4 ∨ op = 5 ∨ op = 6 ∨ op = 7 ∨ op = 8 ∨ op = 9 ∨ op = 10 ∨ op = 11 ∨ op = 12 ∨ op = 13 := by omega
  rcases hh with rfl | rfl | rfl | rfl | rfl | rfl | rfl | rfl | rfl | rfl | rfl | rfl | rfl
  all_goals first | rfl | (simp [h (by omega)]; rfl)
/-- what is known as a number holds of it. -/
theorem num_holds {a : TKnown} {k n len : Int} (h : kind_Holds a k n len = true) (hl : 0 ≤ len ∧ len ≤ 65535) (hk : (kind_number a).2 = true) :
    k = 1 ∧ Hs (kind_number a).1 n ∧ (kind_number a).1.Lo ≤ (kind_number a).1.Hi := by
  rw [holds_iff, right_iff] at h
  unfold kind_number at hk ⊢
  by_cases h4 : a.Kind = 4
  · have hb : (a.Kind == 4) = true := by simpa using h4
    rw [hb] at hk ⊢
    simp only [if_true]
    have hw : IntKind.u64.wrap len = len := by rw [wrapU64_eq]; omega
    refine ⟨by omega, ⟨by show (0 : Int) ≤ n; omega, by show n ≤ (65535 : Int); omega⟩, by decide⟩
  · have hb : (a.Kind == 4) = false := by simpa using h4
    rw [hb] at hk ⊢
    simp only [Bool.false_eq_true, if_false, beq_iff_eq] at hk ⊢
    exact ⟨by omega, ⟨by omega, by omega⟩, by omega⟩
theorem num_not {a : TKnown} {k n len : Int} (h : kind_Holds a k n len = true) (h0 : a.Kind ≠ 0) (hk : (kind_number a).2 = false) : k = a.Kind ∧ (k = 2 ∨ k = 3) ∧ a.In.Lo ≤ n ∧ n ≤ a.In.Hi ∧ a.In.Lo ≤ a.In.Hi := by
  rw [holds_iff, right_iff] at h
  unfold kind_number at hk
  by_cases h4 : a.Kind = 4
  · have hb : (a.Kind == 4) = true := by simpa using h4
    rw [hb] at hk; simp at hk
  · have hb : (a.Kind == 4) = false := by simpa using h4
    rw [hb] at hk
    simp at hk
    omega
theorem num_u {a : TKnown} (h : IU64 a.In.Lo ∧ IU64 a.In.Hi) : IU64 (kind_number a).1.Lo ∧ IU64 (kind_number a).1.Hi := by
  unfold kind_number
  split
  · exact ⟨by decide, by decide⟩
  · exact h
theorem holds_num {s : TSpan} {n len : Int} (h : Hs s n) (hle : s.Lo ≤ s.Hi) : kind_Holds ⟨1, s⟩ 1 n len = true := by
  rw [holds_iff, right_iff]
  exact ⟨.inr (.inl ⟨.inl rfl, hle⟩), .inr (.inr ⟨by show (1 : Int) ≠ 0; decide, by show (1 : Int) ≠ 4; decide, rfl, h.1, h.2⟩)⟩
theorem single_sum {op : Int} (hop : op = 1 ∨ op = 2) {a b : TSpan} (ha : IU64 a.Lo ∧ IU64 a.Hi) (hb : IU64 b.Lo ∧ IU64 b.Hi) (h1 : a.Lo = a.Hi) (h2 : b.Lo = b.Hi) : (span_Do op false a b).Lo = (span_Do op false a b).Hi := by
  have hu := cut_ok (nw := false) ha (Int.le_of_eq h1)
  have hv := cut_ok (nw := false) hb (Int.le_of_eq h2)
  rw [span_Do_eq, if_pos ⟨by omega, Int.le_of_eq h1, Int.le_of_eq h2⟩, rulesE_eq (by omega) hu hv]
  show ((rulesE false op a b).getD _).Lo = ((rulesE false op a b).getD _).Hi
  rcases hop with rfl | rfl
  · show ((if b.Hi ≤ mostI false - a.Hi ∨ b.Lo > mostI false - a.Lo then some (⟨(a.Lo + b.Lo) % (mostI false + 1), (a.Hi + b.Hi) % (mostI false + 1)⟩ : TSpan) else none).getD _).Lo = ((if b.Hi ≤ mostI false - a.Hi ∨ b.Lo > mostI false - a.Lo then some (⟨(a.Lo + b.Lo) % (mostI false + 1), (a.Hi + b.Hi) % (mostI false + 1)⟩ : TSpan) else none).getD _).Hi
    rw [if_pos (by omega), h1, h2]; rfl
  · show ((if a.Lo ≥ b.Hi ∨ a.Hi < b.Lo then some (⟨(a.Lo - b.Hi) % (mostI false + 1), (a.Hi - b.Lo) % (mostI false + 1)⟩ : TSpan) else none).getD _).Lo = ((if a.Lo ≥ b.Hi ∨ a.Hi < b.Lo then some (⟨(a.Lo - b.Hi) % (mostI false + 1), (a.Hi - b.Lo) % (mostI false + 1)⟩ : TSpan) else none).getD _).Hi
    rw [if_pos (by omega), h1, h2]; rfl
def noKnown : TKnown := ⟨0, ⟨0, 0⟩⟩
/-- what KindSound asks. -/
def Fine (x : TKnown × Int) (t : Int × Int × Bool) (len : Int) : Prop := (x.2 ≠ 0 ∧ x.1 = noKnown) ∨ (x.2 = 0 ∧ t.2.2 = true ∧ kind_Holds x.1 t.1 t.2.1 len = true)
/-- two numbers. -/
theorem fine_num {op : Int} (hop : 1 ≤ op ∧ op ≤ 13) {nw : Bool} {x y : TSpan} (hx : IU64 x.Lo ∧ IU64 x.Hi) (hy : IU64 y.Lo ∧ IU64 y.Hi) (hlx : x.Lo ≤ x.Hi) (hly : y.Lo ≤ y.Hi) {m n p q len : Int} (hm : IU64 m) (hn : IU64 n) (hp : IU64 p) (hq : IU64 q)
    (hhm : Hs x p) (hhn : Hs y q) (he : alu_Do op nw m n = alu_Do op nw p q) (hd : op = 4 ∨ op = 5 → cutN nw n ≠ 0) : (alu_Do op nw m n).2 = 0 ∧ kind_Holds ⟨1, span_Do op nw x y⟩ 1 (alu_Do op nw m n).1 len = true := by
  obtain ⟨h1, h2⟩ := Do_sound hop (nw := nw) hx hy hlx hly
  have h3 := alu_fine hop (nw := nw) hm hn hd
  exact ⟨h3, holds_num (by rw [he]; exact h2 p q hp hq hhm hhn (by rw [← he]; exact h3)) h1.le⟩
theorem made_mov {m n k j : Int} : law12_made 12 false k m j n = (j, n, j != 0) := rfl
theorem made_num {op : Int} {nw : Bool} {k m j n : Int} (h12 : op = 12 → nw = true ∧ j = 1) (h13 : op ≠ 13 → j = 1) (hk : op ≠ 12 → k = 1) : law12_made op nw k m j n = (1, (alu_Do op nw m n).1, (alu_Do op nw m n).2 == 0) := by
  unfold law12_made law12_made_J0 law12_made_J1 letF
  by_cases e12 : op = 12
  · obtain ⟨h1, h2⟩ := h12 e12; subst e12; subst h1; subst h2; rfl
  · have b12 : (op == 12) = false := by simpa using e12
    rw [b12, hk e12]
    by_cases e13 : op = 13
    · subst e13; rfl
    · have b13 : (op == 13) = false := by simpa using e13
      rw [b13, h13 e13]; rfl
theorem made_move {op : Int} (hop : op = 1 ∨ op = 2) {k m n : Int} (hk : k = 2 ∨ k = 3) : law12_made op false k m 1 n = (k, (alu_Do op false m n).1, (alu_Do op false m n).2 == 0) := by
  rcases hop with rfl | rfl <;> rcases hk with rfl | rfl <;> rfl
theorem j0_fine {op : Int} (hop : 1 ≤ op ∧ op ≤ 13) {nw : Bool} (c d A B : TKnown) (uA : IU64 A.In.Lo ∧ IU64 A.In.Hi) (uB : IU64 B.In.Lo ∧ IU64 B.In.Hi) {kp p kq q len m n : Int} (hl : 0 ≤ len ∧ len ≤ 65535)
    (hA : kind_Holds A kp p len = true) (hB : kind_Holds B kq q len = true) (hA0 : A.Kind ≠ 0) (hB0 : B.Kind ≠ 0) (hm : IU64 m) (hn : IU64 n) (hp : IU64 p) (hq : IU64 q)
    (he : alu_Do op nw m n = alu_Do op nw p q) (hc : op = 4 ∨ op = 5 → n = q) (t : Int × Int × Bool)
    (ht1 : kp = 1 → kq = 1 → t = (1, (alu_Do op nw m n).1, (alu_Do op nw m n).2 == 0))
    (ht2 : nw = false → (op = 1 ∨ op = 2) → (kp = 2 ∨ kp = 3) → kq = 1 → t = (kp, (alu_Do op false p q).1, (alu_Do op false p q).2 == 0)) :
    Fine (kind_Do_J0 op nw c d A.Kind A.In.Lo A.In.Hi B.Kind B.In.Lo B.In.Hi) t len := by
  unfold kind_Do_J0 letF
  simp only
  rw [show (⟨A.Kind, ⟨A.In.Lo, A.In.Hi⟩⟩ : TKnown) = A from rfl, show (⟨B.Kind, ⟨B.In.Lo, B.In.Hi⟩⟩ : TKnown) = B from rfl]
  have nA := num_u uA
  have nB := num_u uB
  cases h1 : (kind_number A).2 with
  | true =>
    obtain ⟨e1, g1, l1⟩ := num_holds hA hl h1
    cases h2 : (kind_number B).2 with
    | true =>
      obtain ⟨e2, g2, l2⟩ := num_holds hB hl h2
      rw [ht1 e1 e2]
      simp only [Bool.true_and]
      split
      · exact .inl ⟨by show (113 : Int) ≠ 0; decide, rfl⟩
      · rename_i hno
        have hd : op = 4 ∨ op = 5 → cutN nw n ≠ 0 := by
          intro ho
          rw [hc ho]
          refine nought_no hq g2 ?_
          cases hz : kind_nought (kind_number B).1 nw with
          | false => rfl
          | true => rw [hz] at hno; exact absurd (by rcases ho with rfl | rfl <;> rfl) hno
        obtain ⟨f1, f2⟩ := fine_num (len := len) hop (nw := nw) nA nB l1 l2 hm hn hp hq g1 g2 he hd
        exact .inr ⟨rfl, by show ((alu_Do op nw m n).2 == 0) = true; simpa using f1, f2⟩
    | false =>
      simp only [Bool.and_false, Bool.false_and, Bool.false_eq_true, if_false]
      exact .inl ⟨by show (114 : Int) ≠ 0; decide, rfl⟩
  | false =>
    obtain ⟨e1, e2, g1, g2, l1⟩ := num_not hA hA0 h1
    simp only [Bool.false_and, Bool.false_eq_true, if_false]
    cases h2 : (kind_number B).2 with
    | false =>
      simp only [Bool.and_false, Bool.false_and, Bool.false_eq_true, if_false]
      exact .inl ⟨by show (114 : Int) ≠ 0; decide, rfl⟩
    | true =>
      obtain ⟨e3, g3, l3⟩ := num_holds hB hl h2
      by_cases hmv : ((((op == 1) || (op == 2)) && !nw) && true) = true
      · rw [hmv]
        have ho : op = 1 ∨ op = 2 := by simp at hmv; exact hmv.1
        have hnw : nw = false := by simp at hmv; exact hmv.2
        subst hnw
        rw [ht2 rfl ho e2 e3]
        obtain ⟨d1, d2⟩ := Do_sound hop (nw := false) uA nB l1 l3
        have f1 := alu_fine hop (nw := false) hp hq (by omega)
        have f2 := d2 p q hp hq ⟨g1, g2⟩ g3 f1
        have hgo : (kp = 3 → A.In.Lo = A.In.Hi ∧ (kind_number B).1.Lo = (kind_number B).1.Hi) → Fine (kind_Do_J1 op false c d A.Kind A.In.Lo A.In.Hi B.Kind B.In.Lo B.In.Hi (kind_number A) (kind_number B) true) (kp, (alu_Do op false p q).1, (alu_Do op false p q).2 == 0) len := by
          intro hs
          refine .inr ⟨rfl, by show ((alu_Do op false p q).2 == 0) = true; simpa using f1, ?_⟩
          show kind_Holds ⟨A.Kind, span_Do op false A.In (kind_number B).1⟩ kp (alu_Do op false p q).1 len = true
          rw [← e1, holds_iff, right_iff]
          have d3 := d1.le
          refine ⟨?_, .inr (.inr ⟨by show kp ≠ 0; omega, by show kp ≠ 4; omega, rfl, f2.1, f2.2⟩)⟩
          rcases e2 with e2 | e2
          · exact .inr (.inl ⟨.inr e2, d3⟩)
          · obtain ⟨s1, s2⟩ := hs e2
            exact .inr (.inr ⟨e2, single_sum ho uA nB s1 s2⟩)
        rcases e2 with e2 | e2
        · have hk : (A.Kind == 2) = true := by simpa using e1 ▸ e2
          rw [hk]
          exact hgo (by omega)
        · have hk : (A.Kind == 2) = false := by simp; omega
          have hk3 : (A.Kind == 3) = true := by simp; omega
          rw [hk, hk3]
          simp only [Bool.and_false, Bool.false_eq_true, if_false, Bool.true_and]
          by_cases hs : (kind_number B).1.Lo = (kind_number B).1.Hi
          · rw [show ((kind_number B).1.Lo == (kind_number B).1.Hi) = true from by simpa using hs]
            refine hgo fun _ => ⟨?_, hs⟩
            rw [holds_iff, right_iff] at hA
            omega
          · rw [show ((kind_number B).1.Lo == (kind_number B).1.Hi) = false from by simpa using hs]
            exact .inl ⟨by show (114 : Int) ≠ 0; decide, rfl⟩
      · have hmv : ((((op == 1) || (op == 2)) && !nw) && true) = false := by simpa using hmv
        rw [hmv]
        simp only [Bool.false_and, Bool.false_eq_true, if_false]
        exact .inl ⟨by show (114 : Int) ≠ 0; decide, rfl⟩
theorem ks_main {op : Int} {nw : Bool} {a b : TKnown} (ua : IU64 a.In.Lo ∧ IU64 a.In.Hi) (ub : IU64 b.In.Lo ∧ IU64 b.In.Hi) {m n k j len : Int} (hm : IU64 m) (hn : IU64 n) (hl : 0 ≤ len ∧ len ≤ 65535)
    (ha : kind_Holds a k m len = true) (hb : kind_Holds b j n len = true) : Fine (kind_Do op nw a b) (law12_made op nw k m j n) len := by
  have ra : kind_Right a = true := ((holds_iff a k m len).1 ha).1
  have rb : kind_Right b = true := ((holds_iff b j n len).1 hb).1
  unfold kind_Do
  rw [ra, rb]
  by_cases hop : 1 ≤ op ∧ op ≤ 13
  · rw [if_neg (by simp; omega)]
    by_cases h0 : ((op != 12) && (a.Kind == 0) || (op != 13) && (b.Kind == 0)) = true
    · rw [if_pos h0]; exact .inl ⟨by show (110 : Int) ≠ 0; decide, rfl⟩
    · rw [if_neg h0]
      have h0a : op ≠ 12 → a.Kind ≠ 0 := by intro h1 h2; apply h0; simp [h1, h2]
      have h0b : op ≠ 13 → b.Kind ≠ 0 := by intro h1 h2; apply h0; simp [h1, h2]
      by_cases h12 : op = 12
      · subst h12
        have hb0 := h0b (by decide)
        have hj : j ≠ 0 := by
          have := (holds_iff b j n len).1 hb
          omega
        cases nw with
        | false =>
          refine .inr ⟨rfl, ?_, hb⟩
          show (j != 0) = true
          simpa using hj
        | true =>
          show Fine (kind_Do_J0 12 true a b b.Kind b.In.Lo b.In.Hi b.Kind b.In.Lo b.In.Hi) _ len
          exact j0_fine (by omega) a b b b ub ub hl hb hb hb0 hb0 hm hn hn hn (mov_any hm hn) (by omega) _ (fun _ h => made_num (fun _ => ⟨rfl, h⟩) (fun _ => h) (by omega)) (by intro h; cases h)
      · have b12 : (op == 12) = false := by simpa using h12
        rw [b12]
        simp only [Bool.false_and, Bool.false_eq_true, if_false]
        have ha0 := h0a h12
        by_cases h13 : op = 13
        · subst h13
          exact j0_fine (by omega) a b a a ua ua hl ha ha ha0 ha0 hm hn hm hm (neg_any hm hn) (by omega) _ (fun h _ => made_num (by omega) (by omega) (fun _ => h)) (by omega)
        · have b13 : (op == 13) = false := by simpa using h13
          rw [b13]
          simp only [Bool.false_eq_true, if_false]
          refine j0_fine hop a b a b ua ub hl ha hb ha0 (h0b h13) hm hn hm hn rfl (fun _ => rfl) _ (fun h1 h2 => made_num (by omega) (fun _ => h2) (fun _ => h1)) (fun h1 h2 h3 h4 => ?_)
          subst h1; subst h4
          exact made_move h2 h3
  · rw [if_pos (by simp; omega)]
    exact .inl ⟨by show (2 : Int) ≠ 0; decide, rfl⟩
theorem law12_KindSound_true (op : Int) (nw : Bool) (a : TKnown) (m : Int) (b : TKnown) (n k j len : Int) (ha : IU8 a.Kind ∧ IU64 a.In.Lo ∧ IU64 a.In.Hi) (hm : IU64 m) (hb : IU8 b.Kind ∧ IU64 b.In.Lo ∧ IU64 b.In.Hi) (hn : IU64 n) : law12_KindSound op nw a m b n k j len = true := by
  unfold law12_KindSound letF
  rw [law12_awake_true]
  simp only [Bool.not_true, Bool.false_eq_true, if_false]
  split
  · rfl
  · rename_i hc
    simp only [Bool.or_eq_true, decide_eq_true_eq, Bool.not_eq_true', not_or, Bool.not_eq_false] at hc
    obtain ⟨⟨⟨⟨⟨h1, h2⟩, h3⟩, h4⟩, h5⟩, h6⟩ := hc
    rcases ks_main (op := op) (nw := nw) ha.2 hb.2 hm hn ⟨by omega, by omega⟩ h3 h4 with ⟨g1, g2⟩ | ⟨g1, g2, g3⟩
    · rw [if_pos (by simpa using g1), g2]; rfl
    · rw [if_neg (by simpa using g1), g2, g3]; rfl

theorem kindSound_any (a0 : Int) (a1 : Bool) (a2 : TKnown) (a3 : Int) (a4 : TKnown) (a5 : Int) (a6 : Int) (a7 : Int) (a8 : Int) (w : World) (h_a0 : IU8 a0) (h_a2 : IU8 a2.Kind ∧ IU64 a2.In.Lo ∧ IU64 a2.In.Hi) (h_a3 : IU64 a3) (h_a4 : IU8 a4.Kind ∧ IU64 a4.In.Lo ∧ IU64 a4.In.Hi) (h_a5 : IU64 a5) (h_a6 : IU8 a6) (h_a7 : IU8 a7) (h_a8 : II64 a8) : Calls Try.prog 10 #[.int .u8 a0, .bool a1, .agg #[.int .u8 a2.Kind, .int .u64 a2.In.Lo, .int .u64 a2.In.Hi], .int .u64 a3, .agg #[.int .u8 a4.Kind, .int .u64 a4.In.Lo, .int .u64 a4.In.Hi], .int .u64 a5, .int .u8 a6, .int .u8 a7, .int .i64 a8] w (RetV w (.bool true)) := by
  have h := law12_KindSound_any a0 a1 a2 a3 a4 a5 a6 a7 a8 w h_a0 h_a2 h_a3 h_a4 h_a5 h_a6 h_a7 h_a8
  rwa [law12_KindSound_true a0 a1 a2 a3 a4 a5 a6 a7 a8 h_a2 h_a3 h_a4 h_a5] at h
end Go.V
