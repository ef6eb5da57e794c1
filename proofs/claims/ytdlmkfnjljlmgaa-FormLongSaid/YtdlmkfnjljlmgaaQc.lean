/- The document checks the shape; the law FormChecks. -/
import Derived.Test.YtdlmkfnjljlmgaaQb
namespace Go.Y
open Go.RowKit Go.V Go.X Go.Proofs

theorem scan_last (code : Nat → Int) : ∀ m k, (∀ j, k ≤ j → j < k + m → code j = 0) → scan code k (m + 1) = if code (k + m) = 0 then none else some ⟨code (k + m), ((k + m : Nat) : Int)⟩
  | 0, k, _ => by unfold scan; rfl
  | m + 1, k, h => by
    have := scan_last code m (k + 1) fun j h1 h2 => h j (by omega) (by omega)
    rw [show k + 1 + m = k + (m + 1) by omega] at this
    rw [← this]
    show (if code k = 0 then scan code (k + 1) (m + 1) else _) = _
    rw [if_pos (h k (by omega) (by omega))]
/-- one place: what may come behind is marked; what changes is told. -/
theorem come_L3 {l : List Ins} (hf : Fwd l) (hl : l.length ≤ 4096) (k : Nat) (hk : k < l.length) (b : Bool) (r : List Bool) (hr : r.length = l.length) (n : Nat) (hn : 20 ≤ n) :
    ∃ n' b', n ≤ n' + 10 ∧ ((∀ x ∈ nextP l (k : Int), r.getD x.toNat false = true) → b' = b) ∧ ref08_come_L3 n l b (k : Int) 0 r (nextP l (k : Int)) = ref08_come_J2 n' l b' (k : Int) (foldT (nextP l (k : Int)) r) := by
  have hn4 : (nextP l (k : Int)).length ≤ 2 := by unfold nextP behindP; grind
  have hb := hf k hk
  generalize nextP l (k : Int) = xs at *
  obtain ⟨n', s', h1, h2, h3⟩ := iterP (fun n (s : Bool × List Bool) j => ref08_come_L3 n l s.1 (k : Int) ((j : Nat) : Int) s.2 xs) (fun j s => s.2 = foldT (xs.take j) r ∧ ((∀ x ∈ xs, r.getD x.toNat false = true) → s.1 = b)) 2 xs.length (fun n s j hj hn hs => by
    obtain ⟨n, rfl⟩ : ∃ i, n = i + 2 := ⟨n - 2, by omega⟩
    obtain ⟨b1, r1⟩ := s
    obtain ⟨e1, e2⟩ := hs
    have e1 : r1 = foldT (xs.take j) r := e1
    have hx := hb _ (getMem xs j hj)
    have hT := foldT_take xs r j hj
    have hm : (∀ x ∈ xs, r.getD x.toNat false = true) → r1.getD (xs.getD j 0).toNat false = true := fun h => by
      rw [e1]; exact foldT_mono _ _ _ (h _ (getMem xs j hj))
    have hlen : r1.length = l.length := by rw [e1, foldT_len, hr]
    rw [← e1] at hT
    refine ⟨n, (if r1.getD (xs.getD j 0).toNat false = true then b1 else true, foldT (xs.take (j + 1)) r), by omega, ⟨rfl, fun h => ?_⟩, ?_⟩
    · show (if _ then b1 else true) = b
      rw [if_pos (hm h)]; exact e2 h
    · show ref08_come_L3 (n + 1 + 1) l b1 (k : Int) ((j : Nat) : Int) r1 xs = ref08_come_L3 n l _ (k : Int) ((j + 1 : Nat) : Int) _ xs
      rw [ref08_come_L3_eq, decide_eq_true (by omega), forkB_true, if_pos (by omega), Int.toNat_natCast, hT]
      generalize xs.getD j 0 = x at *
      have q1 : 0 ≤ x ∧ x < ((r1.length : Nat) : Int) := by omega
      have q2 : 0 ≤ ((j : Nat) : Int) ∧ ((j : Nat) : Int) < ((xs.length : Nat) : Int) := by omega
      simp only [if_pos q1, if_pos q2, ref08_come_J4_eq, nx (len := xs.length) hj (by omega)]
      by_cases hz : r1.getD x.toNat false = true
      · rw [if_pos hz, ← hz, set_self, hz, Bool.not_true, forkB_false]
      · rw [if_neg hz, Bool.eq_false_iff.2 hz, Bool.not_false, forkB_true]) xs.length 0 n (b, r) (by omega) (by omega) ⟨rfl, fun _ => rfl⟩
  obtain ⟨b', r'⟩ := s'
  obtain ⟨e1, e2⟩ := h2
  have e1 : r' = foldT (xs.take xs.length) r := e1
  rw [List.take_length] at e1
  obtain ⟨n', rfl⟩ : ∃ i, n' = i + 1 := ⟨n' - 1, by omega⟩
  refine ⟨n', b', by omega, e2, ?_⟩
  have h3 : ref08_come_L3 n l b (k : Int) 0 r xs = ref08_come_L3 (n' + 1) l b' (k : Int) ((xs.length : Nat) : Int) r' xs := h3
  rw [h3, e1, ref08_come_L3_eq, decide_eq_false (by omega), forkB_false]
theorem come_L1 {l : List Ins} (hf : Fwd l) (hl : l.length ≤ 4096) (k : Nat) (hk : k < l.length) (b : Bool) (r : List Bool) (hr : r.length = l.length) (n : Nat) (hn : 30 ≤ n) :
    ∃ n' b', n ≤ n' + 30 ∧ ((r.getD k false = true → ∀ x ∈ nextP l (k : Int), r.getD x.toNat false = true) → b' = b) ∧ ref08_come_L1 n l b (k : Int) r = ref08_come_L1 n' l b' ((k + 1 : Nat) : Int) (stepP l r k) := by
  obtain ⟨n, rfl⟩ : ∃ i, n = i + 2 := ⟨n - 2, by omega⟩
  rw [ref08_come_L1_eq, decide_eq_true (by omega), forkB_true, if_pos (by omega), Int.toNat_natCast]
  unfold stepP
  by_cases h : r.getD k false = true
  · rw [h, Bool.not_true, forkB_false, next_r, obind_of, if_pos rfl]
    obtain ⟨n', b', a1, a2, a3⟩ := come_L3 hf hl k hk b r hr (n + 1) (by omega)
    obtain ⟨n', rfl⟩ : ∃ i, n' = i + 1 := ⟨n' - 1, by omega⟩
    exact ⟨n', b', by omega, fun hh => a2 (hh rfl), by rw [a3, ref08_come_J2_eq, nx hk (by omega)]⟩
  · rw [if_neg h, Bool.eq_false_iff.2 h, Bool.not_false, forkB_true]
    exact ⟨n, b, by omega, fun _ => rfl, by rw [ref08_come_J2_eq, nx hk (by omega)]⟩
theorem come_r {l : List Ins} (hf : Fwd l) (hl : l.length ≤ 4096) (h0 : 0 < l.length) : ref08_come BIG l = some (stP l l.length) := by
  rw [ref08_come_eq, if_pos (by omega), if_pos (by rw [List.length_replicate]; omega), Int.toNat_natCast]
  have e : ref08_come_L0 BIG l true (stP l 0) = ref08_come_L1 999999999 l false 0 (stP l 0) := by rw [ref08_come_L0_eq, forkB_true]
  have e : ref08_come_L0 BIG l true ((List.replicate l.length false).set 0 true) = ref08_come_L1 999999999 l false 0 (stP l 0) := e
  rw [e]
  obtain ⟨n', s', h1, h2, h3⟩ := iterP (fun n (s : Bool × List Bool) k => ref08_come_L1 n l s.1 ((k : Nat) : Int) s.2) (fun k s => s.2 = stP l k) 30 l.length (fun n s k hk hn hs => by
    obtain ⟨b, r⟩ := s
    have hs : r = stP l k := hs
    subst hs
    obtain ⟨n', b', a1, _, a3⟩ := come_L1 hf hl k hk b (stP l k) (stP_len l k) n hn
    exact ⟨n', (b', stP l (k + 1)), a1, rfl, a3⟩) l.length 0 999999999 (false, stP l 0) (by omega) (by omega) rfl
  obtain ⟨b', r'⟩ := s'
  have h2 : r' = stP l l.length := h2
  subst h2
  have h3 : ref08_come_L1 999999999 l false 0 (stP l 0) = ref08_come_L1 n' l b' ((l.length : Nat) : Int) (stP l l.length) := h3
  obtain ⟨n', rfl⟩ : ∃ i, n' = i + 3 := ⟨n' - 3, by omega⟩
  rw [h3, ref08_come_L1_eq, decide_eq_false (by omega), forkB_false, ref08_come_L0_eq]
  cases b' with
  | false => rw [forkB_false]
  | true =>
    rw [forkB_true]
    obtain ⟨n2, s2, g1, g2, g3⟩ := iterP (fun n (s : Bool × List Bool) k => ref08_come_L1 n l s.1 ((k : Nat) : Int) s.2) (fun k s => s = (false, stP l l.length)) 30 l.length (fun n s k hk hn hs => by
      subst hs
      obtain ⟨n', b', a1, a2, a3⟩ := come_L1 hf hl k hk false (stP l l.length) (stP_len l _) n hn
      have hb := a2 fun hr x hx => stP_closed hf k hk hr x hx
      have hst : stepP l (stP l l.length) k = stP l l.length := by
        unfold stepP
        split
        · rename_i hr
          have : ∀ (xs : List Int), (∀ x ∈ xs, (stP l l.length).getD x.toNat false = true) → foldT xs (stP l l.length) = stP l l.length := by
            intro xs
            induction xs with
            | nil => intro _; rfl
            | cons x xs ih =>
              intro h
              show foldT xs ((stP l l.length).set x.toNat true) = _
              have e : (stP l l.length).set x.toNat true = stP l l.length := by rw [← h x List.mem_cons_self, set_self]
              rw [e]
              exact ih fun y hy => h y (List.mem_cons_of_mem _ hy)
          exact this _ fun x hx => stP_closed hf k hk hr x hx
        · rfl
      refine ⟨n', (b', stP l l.length), a1, by rw [hb], ?_⟩
      have a3' := a3
      rw [hst] at a3'
      exact a3') l.length 0 (n' + 1) (false, stP l l.length) (by omega) (by omega) rfl
    subst g2
    have g3 : ref08_come_L1 (n' + 1) l false 0 (stP l l.length) = ref08_come_L1 n2 l false ((l.length : Nat) : Int) (stP l l.length) := g3
    obtain ⟨n2, rfl⟩ : ∃ i, n2 = i + 2 := ⟨n2 - 2, by omega⟩
    rw [g3, ref08_come_L1_eq, decide_eq_false (by omega), forkB_false, ref08_come_L0_eq, forkB_false]
theorem check_r (l : List Ins) : ref08Check BIG l = some (checkP l) := by
  rw [ref08Check_eq]
  unfold checkP
  by_cases h0 : l.length = 0
  · rw [if_pos h0, h0]; rfl
  rw [if_neg h0, show (((l.length : Nat) : Int) == 0) = false from beq_eq_false_iff_ne.2 (by omega), forkB_false]
  by_cases hl : l.length > 4096
  · rw [if_pos hl, decide_eq_true (by omega), forkB_true]
  rw [if_neg hl, decide_eq_false (by omega), forkB_false]
  have key : ∃ Y, ref08Check_L0 BIG l 0 0 0 = some Y ∧ Y = (scan (c1 l) 0 l.length).getD ((scan (c2 l) 0 l.length).getD ((scan (c3 l) 0 l.length).getD ((scan (c4 l) 0 l.length).getD ⟨0, 0⟩))) := by
    refine scanE (fun n k => ref08Check_L0 n l ((k : Nat) : Int) 0 0) (fun Y => Y) (c1 l) 1 l.length 50000 _ (fun n k hk hn => ?_) (fun z1 n hn => ?_) l.length 0 BIG (by omega) (by unfold BIG; omega) (by omega)
    · show _ ∨ _ ∧ ∃ Y, ref08Check_L0 (n + 1) _ _ _ _ = _ ∧ _
      have hc : c1 l k = if rightP (l.getD k dIns) = true then 0 else 4 := rfl
      rw [hc]
      by_cases hr : rightP (l.getD k dIns) = true
      · refine .inl ⟨by rw [if_pos hr], ?_⟩
        show ref08Check_L0 (n + 1) _ _ _ _ = _
        rw [ref08Check_L0_eq, decide_eq_true (by omega), forkB_true, if_pos (by omega), right_r, obind_of, Int.toNat_natCast, hr, Bool.not_true, forkB_false, nx hk (by omega)]
      · refine .inr ⟨by rw [if_neg hr]; decide, ?_⟩
        rw [ref08Check_L0_eq, decide_eq_true (by omega), forkB_true, if_pos (by omega), right_r, obind_of, Int.toNat_natCast, Bool.eq_false_iff.2 hr, Bool.not_false, forkB_true]
        exact ⟨_, rfl, rfl⟩
    obtain ⟨n, rfl⟩ : ∃ j, n = j + 1 := ⟨n - 1, by omega⟩
    show ∃ Y, ref08Check_L0 (n + 1) _ _ _ _ = _ ∧ _
    rw [ref08Check_L0_eq, decide_eq_false (by omega), forkB_false]
    refine scanE (fun n k => ref08Check_L1 n l ((k : Nat) : Int) 0 0) (fun Y => Y) (c2 l) 3 l.length 30000 _ (fun n k hk hn => ?_) (fun z2 n hn => ?_) l.length 0 n (by omega) (by omega) (by omega)
    · have ro := right_off _ (c1_right (z1 k hk))
      have q : 0 ≤ ((k : Nat) : Int) ∧ ((k : Nat) : Int) < ((l.length : Nat) : Int) := by omega
      have hc : c2 l k = if jumpB (l.getD k dIns) = true then (if (l.getD k dIns).Off < 0 then 100 else if (k : Int) + 1 + (l.getD k dIns).Off ≥ (l.length : Int) then 101 else 0) else 0 := rfl
      have w1 : IntKind.i64.wrap ((k : Int) + 1) = (k : Int) + 1 := wrap64 (by omega)
      have w2 : IntKind.i64.wrap ((k : Int) + 1 + (l.getD k dIns).Off) = (k : Int) + 1 + (l.getD k dIns).Off := wrap64 (by omega)
      have hE : ref08Check_L1 (n + 3) l ((k : Nat) : Int) 0 0 = if jumpB (l.getD k dIns) = true then (if (l.getD k dIns).Off < 0 then some ⟨100, (k : Int)⟩ else if (k : Int) + 1 + (l.getD k dIns).Off ≥ (l.length : Int) then some ⟨101, (k : Int)⟩ else ref08Check_L1 n l ((k + 1 : Nat) : Int) 0 0) else ref08Check_L1 n l ((k + 1 : Nat) : Int) 0 0 := by
        rw [ref08Check_L1_eq, decide_eq_true (by omega), forkB_true]
        simp only [if_pos q, jumps_r, obind_of, Int.toNat_natCast, ref08Check_J2_eq, ref08Check_J3_eq, w1, w2, forkB_if]
        unfold jumpB
        rw [show ((k + 1 : Nat) : Int) = (k : Int) + 1 by omega]
        by_cases hj : (decide (16 ≤ (l.getD k dIns).Op) && decide ((l.getD k dIns).Op ≤ 27)) = true
        · simp only [if_pos hj, decide_eq_true_eq]
        · simp only [if_neg hj, Bool.false_eq_true, if_false]
      show _ ∨ _ ∧ ∃ Y, ref08Check_L1 (n + 3) _ _ _ _ = _ ∧ _
      rw [hE, hc]
      by_cases hj : jumpB (l.getD k dIns) = true
      · simp only [if_pos hj]
        by_cases h1 : (l.getD k dIns).Off < 0
        · simp only [if_pos h1]; exact .inr ⟨by decide, _, rfl, rfl⟩
        · simp only [if_neg h1]
          by_cases h2 : (k : Int) + 1 + (l.getD k dIns).Off ≥ (l.length : Int)
          · simp only [if_pos h2]; exact .inr ⟨by decide, _, rfl, rfl⟩
          · simp only [if_neg h2]
            exact .inl ⟨trivial, trivial⟩
      · simp only [if_neg hj]
        exact .inl ⟨trivial, trivial⟩
    obtain ⟨n, rfl⟩ : ∃ j, n = j + 2 := ⟨n - 2, by omega⟩
    obtain ⟨m, hm⟩ : ∃ m, l.length = m + 1 := ⟨l.length - 1, by omega⟩
    have hw : IntKind.i64.wrap (((l.length : Nat) : Int) - 1) = ((m : Nat) : Int) := by rw [wrap64 (by omega)]; omega
    have hq : 0 ≤ ((m : Nat) : Int) ∧ ((m : Nat) : Int) < ((l.length : Nat) : Int) := by omega
    have hlast : ∀ j, j < l.length → j ≠ m → c3 l j = 0 := fun j hj hjm => by
      unfold c3; rw [if_neg (by omega)]
    have hs := scan_last (c3 l) m 0 (fun j _ h2 => hlast j (by omega) (by omega))
    rw [Nat.zero_add, ← hm] at hs
    show ∃ Y, ref08Check_L1 (n + 1 + 1) _ _ _ _ = _ ∧ _
    have hJ : ref08Check_L1 (n + 1 + 1) l ((l.length : Nat) : Int) 0 0 = if c3 l m = 0 then (obind (ref08_come BIG l) fun y1 => ref08Check_L5 n l 0 0 0 y1) else some ⟨102, ((m : Nat) : Int)⟩ := by
      rw [ref08Check_L1_eq, decide_eq_false (by omega), forkB_false, hw, if_pos hq, if_pos hq, Int.toNat_natCast]
      have hc : c3 l m = if m + 1 = l.length ∧ (l.getD m dIns).Op ≠ 28 ∧ (l.getD m dIns).Op ≠ 16 then 102 else 0 := rfl
      rw [hc]
      simp only [ref08Check_J4_eq, forkB_if]
      generalize l.getD m dIns = i
      by_cases h28 : i.Op = 28
      · simp [h28]
      · by_cases h16 : i.Op = 16
        · simp [h16]
        · simp [h28, h16, hm]
    rw [hJ, hs]
    by_cases hz : c3 l m = 0
    · rw [if_pos hz, if_pos hz]
      have hf := fwd_of (by omega) z1 z2 (fun k hk => by
        by_cases e : k = m
        · rw [e]; exact hz
        · exact hlast k hk e)
      rw [come_r hf (by omega) (by omega), obind_of]
      rw [show scan (c4 l) 0 l.length = scan (fun k => if (stP l l.length).getD k false = true then 0 else 103) 0 l.length from scan_cong _ _ _ _ fun j _ hj => by
        unfold c4
        have e1 := stP_stable hf j (l.length - j) (by omega)
        have e2 := stP_stable hf j 1 (by omega)
        rw [show j + (l.length - j) = l.length by omega] at e1
        rw [e2, e1]]
      refine scanE (fun n k => ref08Check_L5 n l ((k : Nat) : Int) 0 0 (stP l l.length)) (fun Y => Y) (fun k => if (stP l l.length).getD k false = true then 0 else 103) 1 l.length 1 _ (fun n k hk hn => ?_) (fun z4 n hn => ?_) l.length 0 n (by omega) (by omega) (by omega)
      · have hL := stP_len l l.length
        show _ ∨ _ ∧ ∃ Y, ref08Check_L5 (n + 1) _ _ _ _ _ = _ ∧ _
        by_cases hr : (stP l l.length).getD k false = true
        · refine .inl ⟨by simp only [if_pos hr], ?_⟩
          show ref08Check_L5 (n + 1) _ _ _ _ _ = _
          rw [ref08Check_L5_eq, decide_eq_true (by omega), forkB_true, if_pos (by omega), Int.toNat_natCast, hr, Bool.not_true, forkB_false, nx hk (by omega)]
        · refine .inr ⟨by simp only [if_neg hr]; decide, ?_⟩
          rw [ref08Check_L5_eq, decide_eq_true (by omega), forkB_true, if_pos (by omega), Int.toNat_natCast, Bool.eq_false_iff.2 hr, Bool.not_false, forkB_true]
          exact ⟨_, rfl, by simp⟩
      · obtain ⟨n, rfl⟩ : ∃ j, n = j + 1 := ⟨n - 1, by omega⟩
        show ∃ Y, ref08Check_L5 (n + 1) _ _ _ _ _ = _ ∧ _
        rw [ref08Check_L5_eq, decide_eq_false (by omega), forkB_false]
        exact ⟨_, rfl, rfl⟩
    · rw [if_neg hz, if_neg hz]
      refine ⟨_, rfl, ?_⟩
      have : c3 l m = 102 := by
        unfold c3 at hz ⊢; split
        · rfl
        · rename_i h; rw [if_neg h] at hz; exact absurd rfl hz
      rw [this]; rfl
  obtain ⟨Y, e1, e2⟩ := key
  rw [e1, e2]
theorem awake08 : law08_awake BIG = some true := by kernel_rfl
theorem formChecks_true (l : List Ins) : law08FormChecks BIG l = some true := by
  rw [law08FormChecks_eq, awake08, obind_of, Bool.not_true, forkB_false]
  by_cases hl : ((l.length : Nat) : Int) > 300
  · rw [decide_eq_true hl, forkB_true]
  have t1 : List.take l.length (List.drop 0 (l ++ marksI)) = l := by rw [List.drop_zero, List.take_left]
  rw [decide_eq_false hl, forkB_false, lentIns l (by omega), obind_of]
  simp only [t1]
  rw [if_pos (by rw [List.length_append]; omega), check_p, obind_of, check_r, obind_of]
  simp only [beq_self_eq_true, Bool.and_self, forkB_true]
  rw [keptIns l (by omega), obind_of]
end Go.Y
