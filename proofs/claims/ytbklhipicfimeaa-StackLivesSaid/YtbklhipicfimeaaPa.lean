/- What the functions of rows compute: the program's are the document's. -/
import Derived.Test.YtbklhipicfimeaaIb
import Derived.Test.YtbklhipicfimeaaP0
namespace Go.Y
open Go.RowKit Go.V Go.X Go.Proofs

def sizedR (x : Int) : Prop := x = 1 ∨ x = 2 ∨ x = 4 ∨ x = 8
instance (x : Int) : Decidable (sizedR x) := by unfold sizedR; infer_instance
def placeC (b : List Bool) (at_ sz : Int) : Int := if b.length ≠ 512 ∨ ¬ sizedR sz then 2 else if at_ < -512 ∨ at_ > -sz then 112 else 0
theorem place_J0 (n : Nat) (s1 s2 : Int) (b : Bool) (hs : b = false → sizedR s2) : ref13_place_J0 (n + 1) s1 s2 b = some (if b = true then 2 else if s1 < -512 ∨ s1 > -s2 then 112 else 0) := by
  rw [ref13_place_J0_eq]
  cases b with
  | true => rfl
  | false =>
    have h := hs rfl
    unfold sizedR at h
    rw [wrap64 (by omega), Int.zero_sub]
    by_cases h1 : s1 < -512 <;> by_cases h2 : s1 > -s2 <;> simp [forkB, h1, h2]
theorem place_p (b : List Bool) (at_ sz : Int) : ref13_place BIG b at_ sz = some (placeC b at_ sz) := by
  obtain ⟨n, e⟩ : ∃ n : Nat, (BIG : Nat) = n + 1 := ⟨999999999, rfl⟩
  rw [ref13_place_eq, e]
  unfold placeC
  by_cases hl : b.length = 512
  · have hz : sizedR sz → ref13_place_J0 (n + 1) at_ sz false = some (if b.length ≠ 512 ∨ ¬ sizedR sz then 2 else if at_ < -512 ∨ at_ > -sz then 112 else 0) := fun hs => by
      rw [place_J0 _ _ _ _ (fun _ => hs), if_neg (by decide), if_neg (c := b.length ≠ 512 ∨ ¬ sizedR sz) (fun h => h.elim (fun h => h hl) (fun h => h hs))]
    rw [show ((b.length : Int) != 512) = false by simp [hl], forkB_false]
    by_cases h1 : sz = 1
    · rw [show (sz != 1) = false by simp [h1], forkB_false]; exact hz (.inl h1)
    by_cases h2 : sz = 2
    · rw [show (sz != 1) = true by simpa using h1, show (sz != 2) = false by simp [h2], forkB_true, forkB_false]; exact hz (.inr (.inl h2))
    by_cases h4 : sz = 4
    · rw [show (sz != 1) = true by simpa using h1, show (sz != 2) = true by simpa using h2, show (sz != 4) = false by simp [h4]]; simp only [forkB_true, forkB_false]; exact hz (.inr (.inr (.inl h4)))
    by_cases h8 : sz = 8
    · rw [show (sz != 1) = true by simpa using h1, show (sz != 2) = true by simpa using h2, show (sz != 4) = true by simpa using h4, show (sz != 8) = false by simp [h8]]; simp only [forkB_true, forkB_false]; exact hz (.inr (.inr (.inr h8)))
    have hns : ¬ sizedR sz := by unfold sizedR; omega
    rw [show (sz != 1) = true by simpa using h1, show (sz != 2) = true by simpa using h2, show (sz != 4) = true by simpa using h4, show (sz != 8) = true by simpa using h8]
    simp only [forkB_true]
    rw [place_J0 _ _ _ _ (by simp), if_pos rfl, if_pos (.inr hns)]
  · rw [show ((b.length : Int) != 512) = true by simp only [bne_iff_ne, ne_eq]; omega, forkB_true, place_J0 _ _ _ _ (by simp), if_pos rfl, if_pos (.inl hl)]
/-- a row, so many set from a place on. -/
def fillN (b : List Bool) (p : Nat) : Nat → List Bool
  | 0 => b
  | k + 1 => (fillN b p k).set (p + k) true
theorem fillN_len (b : List Bool) (p : Nat) : ∀ k, (fillN b p k).length = b.length
  | 0 => rfl
  | k + 1 => by rw [fillN, List.length_set, fillN_len b p k]
theorem placeC_0 {b : List Bool} {at_ sz : Int} (h : placeC b at_ sz = 0) : b.length = 512 ∧ sizedR sz ∧ -512 ≤ at_ ∧ at_ ≤ -sz := by
  unfold placeC at h
  split at h
  · cases h
  · rename_i h1
    split at h
    · cases h
    · rename_i h2
      exact ⟨by omega, Classical.not_not.1 fun hn => h1 (.inr hn), by omega, by omega⟩
def setP (b : List Bool) (at_ sz : Int) : List Bool × Int := if placeC b at_ sz = 0 then (fillN b (at_ + 512).toNat sz.toNat, 0) else ([], placeC b at_ sz)
theorem set_r (b : List Bool) (at_ sz : Int) : ref13Set BIG b at_ sz = some (setP b at_ sz) := by
  rw [ref13Set_eq, place_p, obind_of]
  unfold setP
  by_cases h : placeC b at_ sz = 0
  · obtain ⟨hl, hs, h1, h2⟩ := placeC_0 h
    unfold sizedR at hs
    rw [h, if_pos rfl, show ((0 : Int) != 0) = false from rfl, forkB_false, if_pos (by omega), List.nil_append]
    have := loop0 (fun n k => ref13Set_L0 n at_ sz (k : Int) (fillN b (at_ + 512).toNat k)) 1 sz.toNat (some (fillN b (at_ + 512).toNat sz.toNat, 0)) (fun n k hk => ?_) (fun n => ?_) BIG (by unfold BIG; omega)
    · exact this
    · show ref13Set_L0 (n + 1) at_ sz (k : Int) (fillN b (at_ + 512).toNat k) = ref13Set_L0 n at_ sz ((k + 1 : Nat) : Int) (fillN b (at_ + 512).toNat (k + 1))
      have hk' : (k : Int) < sz := by omega
      rw [ref13Set_L0_eq, decide_eq_true hk', forkB_true, wrap64 (x := at_ + 512) (by omega), wrap64 (x := at_ + 512 + k) (by omega), fillN_len, if_pos (by omega), nx hk (by omega), fillN, show (at_ + 512 + (k : Int)).toNat = (at_ + 512).toNat + k by omega]
    · show ref13Set_L0 (n + 1) at_ sz ((sz.toNat : Nat) : Int) _ = _
      rw [ref13Set_L0_eq, decide_eq_false (by omega), forkB_false]
  · rw [if_neg h, show (placeC b at_ sz != 0) = true by simpa using h, forkB_true]
/-- are so many set from a place on, from one of them on. -/
def allN (b : List Bool) (p m : Nat) (k : Nat) : Bool := (List.range' k (m - k)).all fun i => b.getD (p + i) false
theorem allN_step (b : List Bool) (p m k : Nat) (h : k < m) : allN b p m k = (b.getD (p + k) false && allN b p m (k + 1)) := by
  unfold allN
  obtain ⟨d, hd⟩ : ∃ d, m - k = d + 1 := ⟨m - k - 1, by omega⟩
  rw [hd, List.range'_succ, List.all_cons, show m - (k + 1) = d by omega]
theorem allN_end (b : List Bool) (p m : Nat) : allN b p m m = true := by unfold allN; simp
def readP (b : List Bool) (at_ sz : Int) : Int := if placeC b at_ sz = 0 then (if allN b (at_ + 512).toNat sz.toNat 0 = true then 0 else 110) else placeC b at_ sz
theorem read_r (b : List Bool) (at_ sz : Int) : ref13Read BIG b at_ sz = some (readP b at_ sz) := by
  rw [ref13Read_eq, place_p, obind_of]
  unfold readP
  by_cases h : placeC b at_ sz = 0
  · obtain ⟨hl, hs, h1, h2⟩ := placeC_0 h
    unfold sizedR at hs
    rw [h, if_pos rfl, show ((0 : Int) != 0) = false from rfl, forkB_false]
    refine loopR (fun n k => ref13Read_L0 n b at_ sz (k : Int)) 1 sz.toNat (fun k => some (if allN b (at_ + 512).toNat sz.toNat k = true then 0 else 110)) (fun n k hk => ?_) (fun n => ?_) sz.toNat 0 BIG (by omega) (by unfold BIG; omega)
    · show ref13Read_L0 (n + 1) b at_ sz (k : Int) = _ ∨ _
      rw [show ref13Read_L0 (n + 1) b at_ sz (k : Int) = forkB (!(b.getD ((at_ + 512).toNat + k) false)) (some 110) (ref13Read_L0 n b at_ sz ((k + 1 : Nat) : Int)) by
        rw [ref13Read_L0_eq, decide_eq_true (by omega), forkB_true, wrap64 (x := at_ + 512) (by omega), wrap64 (x := at_ + 512 + k) (by omega), if_pos (by omega), nx hk (by omega), show (at_ + 512 + (k : Int)).toNat = (at_ + 512).toNat + k by omega]]
      simp only [allN_step b _ _ k hk]
      cases b.getD ((at_ + 512).toNat + k) false with
      | true => exact .inr ⟨rfl, rfl⟩
      | false => exact .inl rfl
    · show ref13Read_L0 (n + 1) b at_ sz ((sz.toNat : Nat) : Int) = _
      rw [ref13Read_L0_eq, decide_eq_false (by omega), forkB_false, allN_end]; rfl
  · rw [if_neg h, show (placeC b at_ sz != 0) = true by simpa using h, forkB_true]
/-- is all that is set in one set in another. -/
def inN (a b : List Bool) (k : Nat) : Bool := (List.range' k (512 - k)).all fun i => !(b.getD i false && !(a.getD i false))
theorem inN_step (a b : List Bool) (k : Nat) (h : k < 512) : inN a b k = (!(b.getD k false && !(a.getD k false)) && inN a b (k + 1)) := by
  unfold inN
  obtain ⟨d, hd⟩ : ∃ d, 512 - k = d + 1 := ⟨512 - k - 1, by omega⟩
  rw [hd, List.range'_succ, List.all_cons, show 512 - (k + 1) = d by omega]
theorem inN_end (a b : List Bool) : inN a b 512 = true := by unfold inN; rw [show (512 - 512 : Nat) = 0 from Nat.sub_self _, List.range'_zero, List.all_nil]
def withinR (a b : List Bool) : Bool := decide (a.length = 512) && (decide (b.length = 512) && inN a b 0)
theorem within_L1 (a b : List Bool) (ha : a.length = 512) (hb : b.length = 512) (n : Nat) (hn : 1025 ≤ n) : ref13Within_L1 n a b 0 = some (inN a b 0) := by
  refine loopR (fun n k => ref13Within_L1 n a b (k : Int)) 2 512 (fun k => some (inN a b k)) (fun n k hk => ?_) (fun n => ?_) 512 0 n (by omega) (by omega)
  · show ref13Within_L1 (n + 1 + 1) a b (k : Int) = _ ∨ _
    have e : ∀ c, ref13Within_J2 (n + 1) a b (k : Int) c = forkB c (some false) (ref13Within_L1 n a b ((k + 1 : Nat) : Int)) := fun c => by rw [ref13Within_J2_eq, nx hk (by omega)]
    rw [show ref13Within_L1 (n + 1 + 1) a b (k : Int) = forkB (b.getD k false && !(a.getD k false)) (some false) (ref13Within_L1 n a b ((k + 1 : Nat) : Int)) by
      rw [ref13Within_L1_eq, decide_eq_true (by omega), forkB_true, if_pos (by omega), e, e, if_pos (by omega), show (k : Int).toNat = k by omega]
      cases b.getD k false <;> rfl]
    simp only [inN_step a b k hk]
    cases (b.getD k false && !(a.getD k false)) with
    | true => exact .inl rfl
    | false => exact .inr ⟨rfl, rfl⟩
  · show ref13Within_L1 (n + 1) a b ((512 : Nat) : Int) = _
    rw [ref13Within_L1_eq, decide_eq_false (by omega), forkB_false, inN_end]
theorem within_r (a b : List Bool) : ref13Within BIG a b = some (withinR a b) := by
  have e : (BIG : Nat) = 999999999 + 1 := rfl
  rw [ref13Within_eq, e]
  unfold withinR
  by_cases ha : a.length = 512
  · rw [show ((a.length : Int) != 512) = false by simp [ha], forkB_false, ref13Within_J0_eq]
    by_cases hb : b.length = 512
    · rw [show ((b.length : Int) != 512) = false by simp [hb], forkB_false, within_L1 a b ha hb _ (by omega)]; rw [decide_eq_true ha, decide_eq_true hb]; rfl
    · rw [show ((b.length : Int) != 512) = true by simp only [bne_iff_ne, ne_eq]; omega, forkB_true, decide_eq_true ha, decide_eq_false hb]; rfl
  · rw [show ((a.length : Int) != 512) = true by simp only [bne_iff_ne, ne_eq]; omega, forkB_true, ref13Within_J0_eq, forkB_true, decide_eq_false ha]; rfl
/-- what is set in both, up to a place; behind it a row. -/
def joinN (a b r : List Bool) : Nat → List Bool
  | 0 => r
  | k + 1 => (joinN a b r k).set k (a.getD k false && b.getD k false)
theorem joinN_len (a b r : List Bool) : ∀ k, (joinN a b r k).length = r.length
  | 0 => rfl
  | k + 1 => by rw [joinN, List.length_set, joinN_len a b r k]
theorem joinN_at (a b r : List Bool) (j : Nat) : ∀ k, (joinN a b r k)[j]? = if j < k ∧ j < r.length then some (a.getD j false && b.getD j false) else r[j]?
  | 0 => by simp [joinN]
  | k + 1 => by
    rw [joinN, List.getElem?_set, joinN_at a b r j k, joinN_len]
    by_cases hjk : k = j
    · subst hjk
      simp only [Nat.lt_irrefl, false_and, if_false, true_and, if_true]
      by_cases hl : k < r.length
      · rw [if_pos hl, if_pos ⟨by omega, hl⟩]
      · rw [if_neg hl, if_neg (fun h => hl h.2), List.getElem?_eq_none (by omega)]
    · rw [if_neg hjk]
      by_cases hl : j < k ∧ j < r.length
      · rw [if_pos hl, if_pos ⟨by omega, hl.2⟩]
      · rw [if_neg hl, if_neg (fun h => hl ⟨by omega, h.2⟩)]
def joinR (a b : List Bool) : List Bool := if a.length = 512 ∧ b.length = 512 then joinN a b (List.replicate 512 false) 512 else []
theorem join_L1 (a b : List Bool) (ha : a.length = 512) (hb : b.length = 512) (n : Nat) (hn : 1025 ≤ n) : ref13Join_L1 n a b 0 (List.replicate 512 false) = some (joinN a b (List.replicate 512 false) 512) := by
  refine loop0 (fun n k => ref13Join_L1 n a b (k : Int) (joinN a b (List.replicate 512 false) k)) 2 512 _ (fun n k hk => ?_) (fun n => ?_) n (by omega)
  · show ref13Join_L1 (n + 1 + 1) a b (k : Int) (joinN a b (List.replicate 512 false) k) = ref13Join_L1 n a b ((k + 1 : Nat) : Int) (joinN a b (List.replicate 512 false) (k + 1))
    have e : ∀ r, ref13Join_J2 (n + 1) a b (k : Int) r = ref13Join_L1 n a b ((k + 1 : Nat) : Int) r := fun r => by rw [ref13Join_J2_eq, nx hk (by omega)]
    have hlen : (joinN a b (List.replicate 512 false) k).length = 512 := by rw [joinN_len]; exact List.length_replicate ..
    rw [ref13Join_L1_eq, decide_eq_true (by omega), forkB_true, if_pos (by omega), if_pos (by omega), if_pos (by rw [hlen]; omega), if_pos (by rw [hlen]; omega), e, e, joinN, show (k : Int).toNat = k by omega]
    cases a.getD k false <;> rfl
  · show ref13Join_L1 (n + 1) a b ((512 : Nat) : Int) _ = _
    rw [ref13Join_L1_eq, decide_eq_false (by omega), forkB_false]
theorem join_r (a b : List Bool) : ref13Join BIG a b = some (joinR a b) := by
  have e : (BIG : Nat) = 999999999 + 1 := rfl
  rw [ref13Join_eq, e]
  unfold joinR
  by_cases ha : a.length = 512
  · rw [show ((a.length : Int) != 512) = false by simp [ha], forkB_false, ref13Join_J0_eq]
    by_cases hb : b.length = 512
    · rw [show ((b.length : Int) != 512) = false by simp [hb], forkB_false, if_pos (by decide), join_L1 a b ha hb _ (by omega), if_pos ⟨ha, hb⟩]
    · rw [show ((b.length : Int) != 512) = true by simp only [bne_iff_ne, ne_eq]; omega, forkB_true, if_neg (fun h => hb h.2)]
  · rw [show ((a.length : Int) != 512) = true by simp only [bne_iff_ne, ne_eq]; omega, forkB_true, ref13Join_J0_eq, forkB_true, if_neg (fun h => ha h.1)]
end Go.Y
