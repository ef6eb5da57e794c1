/- What the program's functions of rows compute: what the document's do. -/
import Derived.Test.YtbklhipicfimeaaPa
namespace Go.Y
open Go.RowKit Go.V Go.X Go.Proofs

theorem bneLen (b : List Bool) (h : b.length = 512) : ((b.length : Nat) : Int) != 512 ↔ False := by simp [h]
theorem of_yes (b : List Bool) (h : b.length = 512) : stack_of_g1 BIG b = some ((), .inl (b, ())) := by
  rw [stack_of_g1_eq, show (((b.length : Nat) : Int) != 512) = false by simp [h], forkB_false, if_pos (by omega)]
theorem of_no (b : List Bool) (h : ¬ b.length = 512) : stack_of_g1 BIG b = some ((), .inr (2, ())) := by
  rw [stack_of_g1_eq, show (((b.length : Nat) : Int) != 512) = true by simp only [bne_iff_ne, ne_eq]; omega, forkB_true]
def sizedB (x : Int) : Bool := decide (sizedR x)
theorem fork4 {R : Type} (x : Int) (f : Bool → Option R) : forkB (x == 1) (f (x == 1)) (forkB (x == 2) (f (x == 2)) (forkB (x == 4) (f (x == 4)) (f (x == 8)))) = f (sizedB x) := by
  by_cases h1 : x = 1
  · subst h1; rfl
  by_cases h2 : x = 2
  · subst h2; rfl
  by_cases h4 : x = 4
  · subst h4; rfl
  by_cases h8 : x = 8
  · subst h8; rfl
  have hn : sizedB x = false := decide_eq_false (by unfold sizedR; omega)
  rw [show (x == 1) = false by simpa using h1, show (x == 2) = false by simpa using h2, show (x == 4) = false by simpa using h4, show (x == 8) = false by simpa using h8, hn]; rfl
theorem part1 (b : List Bool) (hl : b.length = 512) (at_ sz : Int) : stack_truths_part_g1 BIG b at_ sz = some (((b, ()), ()), if placeC b at_ sz = 0 then .inl (((at_ + 512).toNat, sz.toNat), ()) else .inr (placeC b at_ sz, ())) := by
  obtain ⟨n, e⟩ : ∃ n : Nat, (BIG : Nat) = n + 1 + 1 + 1 + 1 := ⟨999999996, rfl⟩
  rw [stack_truths_part_g1_eq, fork4 sz (fun c => stack_truths_part_g1_J1 BIG at_ sz c b), e, stack_truths_part_g1_J1_eq]
  unfold placeC sizedB
  by_cases hs : sizedR sz
  · rw [decide_eq_true hs, forkB_true, stack_truths_part_g1_J0_eq, if_neg (c := b.length ≠ 512 ∨ ¬ sizedR sz) (fun h => h.elim (fun h => h hl) (fun h => h hs))]
    have hs' := hs
    unfold sizedR at hs'
    rw [wrap64 (x := 0 - sz) (by omega), Int.zero_sub]
    by_cases h1 : at_ < -512
    · rw [decide_eq_true h1, forkB_true, stack_truths_part_g1_J3_eq, forkB_true, if_pos (c := at_ < -512 ∨ at_ > -sz) (.inl h1), if_neg (by decide)]
    · by_cases h2 : at_ > -sz
      · rw [decide_eq_false h1, forkB_false, stack_truths_part_g1_J3_eq, decide_eq_true h2, forkB_true, if_pos (c := at_ < -512 ∨ at_ > -sz) (.inr h2), if_neg (by decide)]
      · rw [decide_eq_false h1, forkB_false, stack_truths_part_g1_J3_eq, decide_eq_false h2, forkB_false, if_neg (c := at_ < -512 ∨ at_ > -sz) (fun h => h.elim h1 h2), if_pos rfl, stack_truths_part_g1_J2_eq, wrap64 (x := 512 + at_) (by omega), if_pos (by omega), if_pos (by omega), Int.add_comm 512 at_, Nat.add_zero, Nat.sub_zero]
  · rw [decide_eq_false hs, forkB_false, if_pos (c := b.length ≠ 512 ∨ ¬ sizedR sz) (.inr hs), if_neg (by decide)]
theorem part2 (b : List Bool) (hl : b.length = 512) (at_ sz : Int) : stack_truths_part_g2 BIG b at_ sz = some ((), if placeC b at_ sz = 0 then .inl (List.take sz.toNat (List.drop (at_ + 512).toNat b), ()) else .inr (placeC b at_ sz, ())) := by
  obtain ⟨n, e⟩ : ∃ n : Nat, (BIG : Nat) = n + 1 + 1 + 1 + 1 := ⟨999999996, rfl⟩
  rw [stack_truths_part_g2_eq, fork4 sz (fun c => stack_truths_part_g2_J1 BIG b at_ sz c), e, stack_truths_part_g2_J1_eq]
  unfold placeC sizedB
  by_cases hs : sizedR sz
  · rw [decide_eq_true hs, forkB_true, stack_truths_part_g2_J0_eq, if_neg (c := b.length ≠ 512 ∨ ¬ sizedR sz) (fun h => h.elim (fun h => h hl) (fun h => h hs))]
    have hs' := hs
    unfold sizedR at hs'
    rw [wrap64 (x := 0 - sz) (by omega), Int.zero_sub]
    by_cases h1 : at_ < -512
    · rw [decide_eq_true h1, forkB_true, stack_truths_part_g2_J3_eq, forkB_true, if_pos (c := at_ < -512 ∨ at_ > -sz) (.inl h1), if_neg (by decide)]
    · by_cases h2 : at_ > -sz
      · rw [decide_eq_false h1, forkB_false, stack_truths_part_g2_J3_eq, decide_eq_true h2, forkB_true, if_pos (c := at_ < -512 ∨ at_ > -sz) (.inr h2), if_neg (by decide)]
      · rw [decide_eq_false h1, forkB_false, stack_truths_part_g2_J3_eq, decide_eq_false h2, forkB_false, if_neg (c := at_ < -512 ∨ at_ > -sz) (fun h => h.elim h1 h2), if_pos rfl, stack_truths_part_g2_J2_eq, wrap64 (x := 512 + at_) (by omega), if_pos (by omega), if_pos (by omega), Int.add_comm 512 at_, List.drop_zero, Nat.sub_zero,
          show List.take (((512 : Nat) : Int).toNat - (at_ + 512).toNat) (List.drop (at_ + 512).toNat b) = List.drop (at_ + 512).toNat b from List.take_of_length_le (by rw [List.length_drop, hl]; omega),
          if_pos (by rw [List.length_drop, hl]; omega)]
  · rw [decide_eq_false hs, forkB_false, if_pos (c := b.length ≠ 512 ∨ ¬ sizedR sz) (.inr hs), if_neg (by decide)]
theorem placeC_len {b : List Bool} (h : ¬ b.length = 512) (at_ sz : Int) : placeC b at_ sz = 2 := by unfold placeC; rw [if_pos (.inl h)]
theorem set1 (b : List Bool) (at_ sz : Int) : stackSet_1_g1 BIG b at_ sz = some (((b, ()), (at_, ()), (sz, ()), ()), if placeC b at_ sz = 0 then .inl (fillN b (at_ + 512).toNat sz.toNat, ()) else .inr (placeC b at_ sz, ())) := by
  rw [stackSet_1_g1_eq]
  by_cases hl : b.length = 512
  · rw [of_yes b hl, obind_of]
    show (if 512 ≤ b.length then obind (stack_truths_part_g1 BIG (List.take 512 (List.drop 0 b)) at_ sz) _ else none) = _
    rw [if_pos (by omega), List.drop_zero, List.take_of_length_le (by omega), part1 b hl, obind_of]
    by_cases h : placeC b at_ sz = 0
    · rw [if_pos h, if_pos h]
      obtain ⟨_, hs, h1, h2⟩ := placeC_0 h
      unfold sizedR at hs
      show stackSet_1_g1_L0 BIG (at_ + 512).toNat sz.toNat ((sz.toNat : Nat) : Int) 0 b at_ sz b = _
      refine loop0 (fun n k => stackSet_1_g1_L0 n (at_ + 512).toNat sz.toNat ((sz.toNat : Nat) : Int) (k : Int) b at_ sz (fillN b (at_ + 512).toNat k)) 1 sz.toNat _ (fun n k hk => ?_) (fun n => ?_) BIG (by unfold BIG; omega)
      · show stackSet_1_g1_L0 (n + 1) _ _ _ (k : Int) _ _ _ _ = stackSet_1_g1_L0 n (at_ + 512).toNat sz.toNat ((sz.toNat : Nat) : Int) ((k + 1 : Nat) : Int) b at_ sz (fillN b (at_ + 512).toNat (k + 1))
        rw [stackSet_1_g1_L0_eq, decide_eq_true (by omega), forkB_true, if_pos (by omega), nx hk (by omega), fillN, Int.toNat_natCast]
      · show stackSet_1_g1_L0 (n + 1) _ _ _ ((sz.toNat : Nat) : Int) _ _ _ _ = _
        rw [stackSet_1_g1_L0_eq, decide_eq_false (by omega), forkB_false]
    · rw [if_neg h, if_neg h]
  · rw [of_no b hl, obind_of, placeC_len hl, if_neg (by decide)]
theorem stackSet_r (b : List Bool) (at_ sz : Int) : stackSet BIG b at_ sz = some (setP b at_ sz) := by
  rw [stackSet_eq, stack_tried_g1_eq, set1, obind_of]
  unfold setP
  by_cases h : placeC b at_ sz = 0
  · rw [if_pos h, if_pos h]
    show obind (obind (stack_tried_i1_d1 0) _) _ = _
    rw [stack_tried_i1_d1_eq, obind_of, obind_of]
  · rw [if_neg h, if_neg h]
    show obind (obind (stack_tried_i1_d2 0 (placeC b at_ sz)) _) _ = _
    rw [stack_tried_i1_d2_eq, obind_of, obind_of]
theorem take_at (b : List Bool) (p m k : Nat) (hk : k < m) : (List.take m (List.drop p b)).getD k false = b.getD (p + k) false := by
  rw [List.getD_eq_getElem?_getD, List.getD_eq_getElem?_getD, List.getElem?_take, if_pos hk, List.getElem?_drop]
theorem read1 (b : List Bool) (at_ sz : Int) : stackRead_1_g1 BIG b at_ sz = some (((b, ()), (at_, ()), (sz, ()), ()), if placeC b at_ sz = 0 then (if allN b (at_ + 512).toNat sz.toNat 0 = true then .inl (true, ()) else .inr (110, ())) else .inr (placeC b at_ sz, ())) := by
  rw [stackRead_1_g1_eq]
  by_cases hl : b.length = 512
  · rw [of_yes b hl, obind_of]
    show obind (stack_truths_part_g2 BIG b at_ sz) _ = _
    rw [part2 b hl, obind_of]
    by_cases h : placeC b at_ sz = 0
    · rw [if_pos h, if_pos h]
      obtain ⟨_, hs, h1, h2⟩ := placeC_0 h
      unfold sizedR at hs
      have hlen : (List.take sz.toNat (List.drop (at_ + 512).toNat b)).length = sz.toNat := by rw [List.length_take, List.length_drop, hl]; omega
      show stackRead_1_g1_L0 BIG (List.take sz.toNat (List.drop (at_ + 512).toNat b)) (((List.take sz.toNat (List.drop (at_ + 512).toNat b)).length : Nat) : Int) 0 b at_ sz = _
      rw [hlen]
      refine loopR (fun n k => stackRead_1_g1_L0 n (List.take sz.toNat (List.drop (at_ + 512).toNat b)) ((sz.toNat : Nat) : Int) (k : Int) b at_ sz) 2 sz.toNat (fun k => some (((b, ()), (at_, ()), (sz, ()), ()), (if allN b (at_ + 512).toNat sz.toNat k = true then .inl (true, ()) else .inr (110, ())))) (fun n k hk => ?_) (fun n => ?_) sz.toNat 0 BIG (by omega) (by unfold BIG; omega)
      · show stackRead_1_g1_L0 (n + 1 + 1) _ _ (k : Int) _ _ _ = _ ∨ _
        rw [show stackRead_1_g1_L0 (n + 1 + 1) (List.take sz.toNat (List.drop (at_ + 512).toNat b)) ((sz.toNat : Nat) : Int) (k : Int) b at_ sz = forkB (!(b.getD ((at_ + 512).toNat + k) false)) (some (((b, ()), (at_, ()), (sz, ()), ()), .inr ((110 : Int), ()))) (stackRead_1_g1_L0 n (List.take sz.toNat (List.drop (at_ + 512).toNat b)) ((sz.toNat : Nat) : Int) ((k + 1 : Nat) : Int) b at_ sz) by
          rw [stackRead_1_g1_L0_eq, decide_eq_true (by omega), forkB_true, if_pos (by rw [hlen]; omega), Int.toNat_natCast, take_at _ _ _ _ hk, stackRead_1_g1_J1_eq, nx hk (by omega)]]
        simp only [allN_step b _ _ k hk]
        cases b.getD ((at_ + 512).toNat + k) false with
        | true => exact .inr ⟨rfl, rfl⟩
        | false => exact .inl rfl
      · show stackRead_1_g1_L0 (n + 1) _ _ ((sz.toNat : Nat) : Int) _ _ _ = _
        rw [stackRead_1_g1_L0_eq, decide_eq_false (by omega), forkB_false, allN_end, if_pos rfl]
    · rw [if_neg h, if_neg h]
  · rw [of_no b hl, obind_of, placeC_len hl, if_neg (by decide)]
theorem stackRead_r (b : List Bool) (at_ sz : Int) : stackRead BIG b at_ sz = some (readP b at_ sz) := by
  rw [stackRead_eq, stack_tried_i2_g1_eq, read1, obind_of]
  unfold readP
  by_cases h : placeC b at_ sz = 0
  · rw [if_pos h, if_pos h]
    by_cases h2 : allN b (at_ + 512).toNat sz.toNat 0 = true
    · rw [if_pos h2, if_pos h2]
      show obind (obind (stack_tried_i3_d1 0) _) _ = _
      rw [stack_tried_i3_d1_eq, obind_of, obind_of]
    · rw [if_neg h2, if_neg h2]
      show obind (obind (stack_tried_i3_d2 0 110) _) _ = _
      rw [stack_tried_i3_d2_eq, obind_of, obind_of]
  · rw [if_neg h, if_neg h]
    show obind (obind (stack_tried_i3_d2 0 (placeC b at_ sz)) _) _ = _
    rw [stack_tried_i3_d2_eq, obind_of, obind_of]
theorem within1 (a b : List Bool) : stackWithin_1_g1 BIG a b = some (((a, ()), (b, ()), ()), if a.length = 512 ∧ b.length = 512 then .inl (inN a b 0, ()) else .inr (2, ())) := by
  rw [stackWithin_1_g1_eq]
  by_cases ha : a.length = 512
  · rw [of_yes a ha, obind_of]
    show obind (stack_of_g1 BIG b) _ = _
    by_cases hb : b.length = 512
    · rw [of_yes b hb, obind_of, if_pos ⟨ha, hb⟩]
      show stackWithin_1_g1_L0 BIG a b 0 a b = _
      refine loopR (fun n k => stackWithin_1_g1_L0 n a b (k : Int) a b) 2 512 (fun k => some (((a, ()), (b, ()), ()), .inl (inN a b k, ()))) (fun n k hk => ?_) (fun n => ?_) 512 0 BIG (by omega) (by unfold BIG; omega)
      · show stackWithin_1_g1_L0 (n + 1 + 1) a b (k : Int) a b = _ ∨ _
        have e : ∀ c, stackWithin_1_g1_J1 (n + 1) a b (k : Int) c a b = forkB c (some (((a, ()), (b, ()), ()), .inl (false, ()))) (stackWithin_1_g1_L0 n a b ((k + 1 : Nat) : Int) a b) := fun c => by rw [stackWithin_1_g1_J1_eq, nx hk (by omega)]
        rw [show stackWithin_1_g1_L0 (n + 1 + 1) a b (k : Int) a b = forkB (b.getD k false && !(a.getD k false)) (some (((a, ()), (b, ()), ()), .inl (false, ()))) (stackWithin_1_g1_L0 n a b ((k + 1 : Nat) : Int) a b) by
          rw [stackWithin_1_g1_L0_eq, decide_eq_true (by omega), forkB_true, if_pos (by omega), if_pos (by omega), e, e, if_pos (by omega), if_pos (by omega), Nat.zero_add, Int.toNat_natCast]
          cases b.getD k false <;> rfl]
        simp only [inN_step a b k hk]
        cases (b.getD k false && !(a.getD k false)) with
        | true => exact .inl rfl
        | false => exact .inr ⟨rfl, rfl⟩
      · show stackWithin_1_g1_L0 (n + 1) a b ((512 : Nat) : Int) a b = _
        rw [stackWithin_1_g1_L0_eq, decide_eq_false (by omega), forkB_false, inN_end]
    · rw [of_no b hb, obind_of, if_neg (fun h => hb h.2)]
  · rw [of_no a ha, obind_of, if_neg (fun h => ha h.1)]
theorem stackWithin_r (a b : List Bool) : stackWithin BIG a b = some (withinR a b) := by
  rw [stackWithin_eq, stack_tried_i2_g2_eq, within1, obind_of]
  unfold withinR
  by_cases h : a.length = 512 ∧ b.length = 512
  · rw [if_pos h, decide_eq_true h.1, decide_eq_true h.2]
    show obind (obind (stack_tried_i3_d1 0) _) _ = _
    rw [stack_tried_i3_d1_eq, obind_of, obind_of]; rfl
  · rw [if_neg h]
    show obind (obind (stack_tried_i3_d2 0 2) _) _ = _
    rw [stack_tried_i3_d2_eq, obind_of, obind_of]
    by_cases ha : a.length = 512
    · rw [decide_eq_true ha, decide_eq_false (fun hb => h ⟨ha, hb⟩)]; rfl
    · rw [decide_eq_false ha]; rfl
theorem joinN_get (a b r : List Bool) (k : Nat) : (joinN a b r k).getD k false = r.getD k false := by
  rw [List.getD_eq_getElem?_getD, joinN_at, if_neg (fun h => Nat.lt_irrefl _ h.1), ← List.getD_eq_getElem?_getD]
theorem join1 (a b : List Bool) : stackJoin_1_g1 BIG a b = some (((a, ()), (b, ()), ()), if a.length = 512 ∧ b.length = 512 then .inl (joinN a b a 512, ()) else .inr (2, ())) := by
  rw [stackJoin_1_g1_eq]
  by_cases ha : a.length = 512
  · rw [of_yes a ha, obind_of]
    show (if 512 ≤ a.length then obind (stack_of_g1 BIG b) _ else none) = _
    rw [if_pos (by omega)]
    by_cases hb : b.length = 512
    · rw [of_yes b hb, obind_of, if_pos ⟨ha, hb⟩]
      show stackJoin_1_g1_L0 BIG b 0 a b (List.take 512 (List.drop 0 a)) = _
      rw [List.drop_zero, List.take_of_length_le (by omega)]
      refine loop0 (fun n k => stackJoin_1_g1_L0 n b (k : Int) a b (joinN a b a k)) 2 512 _ (fun n k hk => ?_) (fun n => ?_) BIG (by unfold BIG; omega)
      · show stackJoin_1_g1_L0 (n + 1 + 1) b (k : Int) a b (joinN a b a k) = stackJoin_1_g1_L0 n b ((k + 1 : Nat) : Int) a b (joinN a b a (k + 1))
        have e : ∀ r, stackJoin_1_g1_J1 (n + 1) b (k : Int) a b r = stackJoin_1_g1_L0 n b ((k + 1 : Nat) : Int) a b r := fun r => by rw [stackJoin_1_g1_J1_eq, nx hk (by omega)]
        rw [stackJoin_1_g1_L0_eq, decide_eq_true (by omega), forkB_true, if_pos (by omega), if_pos (by omega), e, e, if_pos (by omega), if_pos (by omega), if_pos (by omega), Nat.zero_add, Int.toNat_natCast, joinN_get, joinN]
        cases a.getD k false <;> rfl
      · show stackJoin_1_g1_L0 (n + 1) b ((512 : Nat) : Int) a b _ = _
        rw [stackJoin_1_g1_L0_eq, decide_eq_false (by omega), forkB_false]
    · rw [of_no b hb, obind_of, if_neg (fun h => hb h.2)]
  · rw [of_no a ha, obind_of, if_neg (fun h => ha h.1)]
theorem joinN_same (a b : List Bool) (ha : a.length = 512) : joinN a b a 512 = joinN a b (List.replicate 512 false) 512 := by
  apply List.ext_getElem?
  intro j
  rw [joinN_at, joinN_at, List.length_replicate, ha]
  by_cases h : j < 512 ∧ j < 512
  · rw [if_pos h, if_pos h]
  · rw [if_neg h, if_neg h, List.getElem?_eq_none (by omega), List.getElem?_eq_none (by rw [List.length_replicate]; omega)]
theorem stackJoin_r (a b : List Bool) : stackJoin BIG a b = some (joinR a b) := by
  rw [stackJoin_eq, stack_tried_g2_eq, join1, obind_of]
  unfold joinR
  by_cases h : a.length = 512 ∧ b.length = 512
  · rw [if_pos h, if_pos h]
    show obind (obind (stack_tried_i1_d1 0) _) _ = _
    rw [stack_tried_i1_d1_eq, obind_of, obind_of, joinN_same a b h.1]
  · rw [if_neg h, if_neg h]
    show obind (obind (stack_tried_i1_d2 0 2) _) _ = _
    rw [stack_tried_i1_d2_eq, obind_of, obind_of]
end Go.Y
