/- Lists of instructions to bytes and back: the program and the document do the same. -/
import Derived.Test.YtdlmkfnjljlmgaaPi
namespace Go.Y
open Go.RowKit Go.V Go.X Go.Proofs

theorem equal8 (a0 a1 a2 a3 a4 a5 a6 a7 b0 b1 b2 b3 b4 b5 b6 b7 : Int) : slicesEqual BIG [a0, a1, a2, a3, a4, a5, a6, a7] [b0, b1, b2, b3, b4, b5, b6, b7] = forkB (a0 != b0) (some false) (forkB (a1 != b1) (some false) (forkB (a2 != b2) (some false) (forkB (a3 != b3) (some false) (forkB (a4 != b4) (some false) (forkB (a5 != b5) (some false) (forkB (a6 != b6) (some false) (forkB (a7 != b7) (some false) (some true)))))))) := by kernel_rfl
theorem equal_p (i : Ins) (b0 b1 b2 b3 b4 b5 b6 b7 : Int) : slicesEqual BIG (putP i) [b0, b1, b2, b3, b4, b5, b6, b7] = some (decide (putP i = [b0, b1, b2, b3, b4, b5, b6, b7])) := by
  unfold putP
  generalize i.Op + 64 * upP i + (if i.UseImm = true then 32 else 0) = a0
  generalize 16 * i.Dst + i.Src = a1
  generalize i.Off % 65536 / 256 = a2
  generalize i.Off % 256 = a3
  generalize i.Imm % 4294967296 / 16777216 = a4
  generalize i.Imm % 4294967296 / 65536 % 256 = a5
  generalize i.Imm % 4294967296 / 256 % 256 = a6
  generalize i.Imm % 256 = a7
  rw [equal8]
  simp only [forkB_if, List.cons.injEq, bne_iff_ne, ne_eq, and_true]
  by_cases h0 : a0 = b0
  · by_cases h1 : a1 = b1
    · by_cases h2 : a2 = b2
      · by_cases h3 : a3 = b3
        · by_cases h4 : a4 = b4
          · by_cases h5 : a5 = b5
            · by_cases h6 : a6 = b6
              · by_cases h7 : a7 = b7
                · simp [*]
                · simp [*]
              · simp [*]
            · simp [*]
          · simp [*]
        · simp [*]
      · simp [*]
    · simp [*]
  · simp [*]
def candG : List Int → Ins
  | [b0, b1, b2, b3, b4, b5, b6, b7] => cand (!decide (b0 % 32 = 14 ∨ b0 % 32 = 15) && b0 / 64 == 1) b0 b1 b2 b3 b4 b5 b6 b7
  | _ => dIns
def oneP (b : List Int) : Option Ins := if goodB (candG b) b = true then some (candG b) else none
theorem one_same (b0 b1 b2 b3 b4 b5 b6 b7 : Int) (h0 : Byte b0) :
    goodB (cand (!decide (b0 % 32 = 14 ∨ b0 % 32 = 15) && b0 / 64 % 2 == 1) b0 b1 b2 b3 b4 b5 b6 b7) [b0, b1, b2, b3, b4, b5, b6, b7] = goodB (candG [b0, b1, b2, b3, b4, b5, b6, b7]) [b0, b1, b2, b3, b4, b5, b6, b7] ∧
    (goodB (candG [b0, b1, b2, b3, b4, b5, b6, b7]) [b0, b1, b2, b3, b4, b5, b6, b7] = true → cand (!decide (b0 % 32 = 14 ∨ b0 % 32 = 15) && b0 / 64 % 2 == 1) b0 b1 b2 b3 b4 b5 b6 b7 = candG [b0, b1, b2, b3, b4, b5, b6, b7]) := by
  unfold candG
  simp only
  by_cases hs : b0 % 32 = 14 ∨ b0 % 32 = 15
  · rw [decide_eq_true hs]; exact ⟨rfl, fun _ => rfl⟩
  rw [decide_eq_false hs]
  have bad : 192 ≤ b0 → ∀ z, goodB (cand z b0 b1 b2 b3 b4 b5 b6 b7) [b0, b1, b2, b3, b4, b5, b6, b7] = false := by
    intro hb z
    unfold goodB
    rw [Bool.and_eq_false_iff]
    right
    rw [decide_eq_false_iff_not]
    unfold putP cand upP
    simp only [List.cons.injEq, if_neg hs]
    rintro ⟨h, _⟩
    revert h
    split <;> split <;> simp <;> omega
  unfold Byte at h0
  by_cases h3 : b0 / 64 = 3
  · rw [bad (by omega), bad (by omega)]; exact ⟨rfl, fun h => by cases h⟩
  · have : (b0 / 64 % 2 == 1) = (b0 / 64 == 1) := by rw [Bool.eq_iff_iff]; simp; omega
    rw [this]; exact ⟨rfl, fun _ => rfl⟩
theorem uncons {α : Type} (s : List α) (h : 0 < s.length) : ∃ b r, s = b :: r ∧ r.length + 1 = s.length := by
  cases s with
  | nil => simp at h
  | cons b r => exact ⟨b, r, rfl, rfl⟩
theorem eight (s : List Int) (m : Nat) (h : s.length = 8 * (m + 1)) : ∃ b0 b1 b2 b3 b4 b5 b6 b7 r, s = [b0, b1, b2, b3, b4, b5, b6, b7] ++ r ∧ r.length = 8 * m := by
  obtain ⟨b0, s0, rfl, e0⟩ := uncons s (by omega)
  obtain ⟨b1, s1, rfl, e1⟩ := uncons s0 (by omega)
  obtain ⟨b2, s2, rfl, e2⟩ := uncons s1 (by omega)
  obtain ⟨b3, s3, rfl, e3⟩ := uncons s2 (by omega)
  obtain ⟨b4, s4, rfl, e4⟩ := uncons s3 (by omega)
  obtain ⟨b5, s5, rfl, e5⟩ := uncons s4 (by omega)
  obtain ⟨b6, s6, rfl, e6⟩ := uncons s5 (by omega)
  obtain ⟨b7, s7, rfl, e7⟩ := uncons s6 (by omega)
  exact ⟨b0, b1, b2, b3, b4, b5, b6, b7, s7, rfl, by simp at h; omega⟩
def decP : Nat → List Int → Option (List Ins)
  | 0, _ => some []
  | m + 1, b => match oneP (b.take 8) with
    | none => none
    | some i => match decP m (b.drop 8) with
      | none => none
      | some l => some (i :: l)
def getR (acc : List Ins) : Option (List Ins) → List Ins × Int
  | none => ([], 4)
  | some l => (acc ++ l, 0)
theorem decP_step (b0 b1 b2 b3 b4 b5 b6 b7 : Int) (r : List Int) (m : Nat) (acc : List Ins) : getR acc (decP (m + 1) ([b0, b1, b2, b3, b4, b5, b6, b7] ++ r)) = match oneP [b0, b1, b2, b3, b4, b5, b6, b7] with
    | none => ([], 4)
    | some i => getR (acc ++ [i]) (decP m r) := by
  show getR acc (match oneP [b0, b1, b2, b3, b4, b5, b6, b7] with | none => none | some i => match decP m r with | none => none | some l => some (i :: l)) = _
  cases oneP [b0, b1, b2, b3, b4, b5, b6, b7] with
  | none => rfl
  | some i =>
    cases decP m r with
    | none => rfl
    | some l => show (acc ++ i :: l, (0 : Int)) = (acc ++ [i] ++ l, 0); rw [List.append_assoc]; rfl
theorem getL_p : ∀ (m n : Nat) (s : List Int) (acc : List Ins), s.length = 8 * m → (∀ x ∈ s, Byte x) → acc.length + m ≤ 1000000 → 2 * m + 1 ≤ n → insGet_L0 n s acc = some (getR acc (decP m s))
  | 0, n, s, acc, hl, _, _, hn => by
    obtain ⟨n, rfl⟩ : ∃ k, n = k + 1 := ⟨n - 1, by omega⟩
    rw [insGet_L0_eq, decide_eq_false (by omega), forkB_false]
    show _ = some (acc ++ [], (0 : Int))
    rw [List.append_nil]
  | m + 1, n, s, acc, hl, hb, ha, hn => by
    obtain ⟨n, rfl⟩ : ∃ k, n = k + 2 := ⟨n - 2, by omega⟩
    obtain ⟨b0, b1, b2, b3, b4, b5, b6, b7, r, rfl, hr⟩ := eight s m hl
    have ih := fun i => getL_p m n r (acc ++ [i]) hr (fun x hx => hb x (List.mem_append_right _ hx)) (by rw [List.length_append]; simp; omega) (by omega)
    have hb' : ∀ x ∈ [b0, b1, b2, b3, b4, b5, b6, b7], Byte x := fun x hx => hb x (List.mem_append_left _ hx)
    simp only [List.mem_cons, List.not_mem_nil, or_false, forall_eq_or_imp, forall_eq] at hb'
    obtain ⟨h0, h1, h2, h3, h4, h5, h6, h7⟩ := hb'
    have ht : List.take 8 (List.drop 0 ([b0, b1, b2, b3, b4, b5, b6, b7] ++ r)) = [b0, b1, b2, b3, b4, b5, b6, b7] := rfl
    have hL : ([b0, b1, b2, b3, b4, b5, b6, b7] ++ r).length = 8 * (m + 1) := hl
    have hd : List.take ((((([b0, b1, b2, b3, b4, b5, b6, b7] ++ r).length : Nat) : Int).toNat) - 8) (List.drop 8 ([b0, b1, b2, b3, b4, b5, b6, b7] ++ r)) = r := by
      rw [hL]; show List.take _ r = r; exact List.take_of_length_le (by omega)
    rw [decP_step]
    rw [insGet_L0_eq, decide_eq_true (by omega), forkB_true, if_pos (by omega), ht, get8_p _ _ _ _ _ _ _ _ h0 h1 h2 h3 h4 h5 h6 h7, obind_of, show cand (!decide (b0 % 32 = 14 ∨ b0 % 32 = 15) && b0 / 64 == 1) b0 b1 b2 b3 b4 b5 b6 b7 = candG [b0, b1, b2, b3, b4, b5, b6, b7] from rfl]
    simp only [right_p, obind_of, if_pos (show 0 ≤ (0 : Int) ∧ (0 : Int) ≤ (8 : Int) ∧ (8 : Int) ≤ ((([b0, b1, b2, b3, b4, b5, b6, b7] ++ r).length : Nat) : Int) by omega)]
    show _ = some (match (if goodB (candG [b0, b1, b2, b3, b4, b5, b6, b7]) [b0, b1, b2, b3, b4, b5, b6, b7] = true then some (candG [b0, b1, b2, b3, b4, b5, b6, b7]) else none) with | none => ([], 4) | some i => getR (acc ++ [i]) (decP m r))
    unfold goodB
    change forkB (!rightP (candG [b0, b1, b2, b3, b4, b5, b6, b7])) _ (obind (ins_put BIG (candG [b0, b1, b2, b3, b4, b5, b6, b7])) _) = _
    generalize candG [b0, b1, b2, b3, b4, b5, b6, b7] = c
    cases hr' : rightP c with
    | false => rw [Bool.not_false, forkB_true, insGet_J1_eq, forkB_true]; rfl
    | true =>
      rw [Bool.not_true, forkB_false, bytes_p c (fit c hr'), obind_of, equal_p, obind_of, insGet_J1_eq]
      by_cases hq : putP c = [b0, b1, b2, b3, b4, b5, b6, b7]
      · rw [decide_eq_true hq, Bool.not_true, forkB_false, if_pos (by omega), if_pos (by omega), hd]
        exact ih c
      · rw [decide_eq_false hq]; rfl
theorem getL_r : ∀ (m n : Nat) (pre s : List Int) (acc : List Ins), s.length = 8 * m → (∀ x ∈ s, Byte x) → acc.length + m ≤ 1000000 → pre.length + s.length ≤ 100000000 → m + 1 ≤ n → ref06Get_L0 n (pre ++ s) ((pre.length : Nat) : Int) acc = some (getR acc (decP m s))
  | 0, n, pre, s, acc, hl, _, _, _, hn => by
    obtain ⟨n, rfl⟩ : ∃ k, n = k + 1 := ⟨n - 1, by omega⟩
    rw [ref06Get_L0_eq, decide_eq_false (by rw [List.length_append]; omega), forkB_false]
    show _ = some (acc ++ [], (0 : Int))
    rw [List.append_nil]
  | m + 1, n, pre, s, acc, hl, hb, ha, hp, hn => by
    obtain ⟨n, rfl⟩ : ∃ k, n = k + 1 := ⟨n - 1, by omega⟩
    obtain ⟨b0, b1, b2, b3, b4, b5, b6, b7, r, rfl, hr⟩ := eight s m hl
    have ih := fun i => getL_r m n (pre ++ [b0, b1, b2, b3, b4, b5, b6, b7]) r (acc ++ [i]) hr (fun x hx => hb x (List.mem_append_right _ hx)) (by rw [List.length_append]; simp; omega) (by rw [List.length_append] at hp ⊢; simp at hp ⊢; omega) (by omega)
    have hb' : ∀ x ∈ [b0, b1, b2, b3, b4, b5, b6, b7], Byte x := fun x hx => hb x (List.mem_append_left _ hx)
    simp only [List.mem_cons, List.not_mem_nil, or_false, forall_eq_or_imp, forall_eq] at hb'
    obtain ⟨h0, h1, h2, h3, h4, h5, h6, h7⟩ := hb'
    have w : IntKind.i64.wrap (((pre.length : Nat) : Int) + 8) = ((pre.length + 8 : Nat) : Int) := by rw [wrap64 (by omega)]; omega
    have hL : (pre ++ ([b0, b1, b2, b3, b4, b5, b6, b7] ++ r)).length = pre.length + 8 * (m + 1) := by rw [List.length_append, hl]
    have ht : List.take ((((pre.length + 8 : Nat) : Int)).toNat - ((pre.length : Nat) : Int).toNat) (List.drop ((pre.length : Nat) : Int).toNat (pre ++ ([b0, b1, b2, b3, b4, b5, b6, b7] ++ r))) = [b0, b1, b2, b3, b4, b5, b6, b7] := by
      rw [show (((pre.length + 8 : Nat) : Int)).toNat - ((pre.length : Nat) : Int).toNat = 8 by omega, Int.toNat_natCast, List.drop_left]; rfl
    rw [decP_step]
    rw [ref06Get_L0_eq, decide_eq_true (by omega), forkB_true, w, if_pos (by omega), ht, one8_r _ _ _ _ _ _ _ _ h0 h1 h2 h3 h4 h5 h6 h7, obind_of]
    obtain ⟨e1, e2⟩ := one_same b0 b1 b2 b3 b4 b5 b6 b7 h0
    simp only [e1]
    show _ = some (match (if goodB (candG [b0, b1, b2, b3, b4, b5, b6, b7]) [b0, b1, b2, b3, b4, b5, b6, b7] = true then some (candG [b0, b1, b2, b3, b4, b5, b6, b7]) else none) with | none => ([], 4) | some i => getR (acc ++ [i]) (decP m r))
    cases hg : goodB (candG [b0, b1, b2, b3, b4, b5, b6, b7]) [b0, b1, b2, b3, b4, b5, b6, b7] with
    | false => rw [Bool.not_false, forkB_true]; rfl
    | true =>
      rw [e2 hg, Bool.not_true, forkB_false, if_pos (by omega)]
      have := ih (candG [b0, b1, b2, b3, b4, b5, b6, b7])
      rw [List.append_assoc, List.length_append] at this
      exact this
def getsP (b : List Int) : List Ins × Int := if b.length > 32768 then ([], 3) else if b.length % 8 = 0 then getR [] (decP (b.length / 8) b) else ([], 4)
theorem get_p (b : List Int) (hb : ∀ x ∈ b, Byte x) : insGet BIG b = some (getsP b) := by
  rw [insGet_eq]
  unfold getsP
  by_cases h1 : b.length > 32768
  · rw [if_pos h1, decide_eq_true (by omega), forkB_true]
  rw [if_neg h1, decide_eq_false (by omega), forkB_false, forkB_if, Int.tmod_eq_emod_of_nonneg (by omega)]
  by_cases h2 : b.length % 8 = 0
  · rw [if_pos h2, if_neg (by simp; omega)]
    exact getL_p (b.length / 8) BIG b [] (by omega) hb (by simp; omega) (by unfold BIG; omega)
  · rw [if_neg h2, if_pos (by simp; omega)]
theorem get_r (b : List Int) (hb : ∀ x ∈ b, Byte x) : ref06Get BIG b = some (getsP b) := by
  rw [ref06Get_eq]
  unfold getsP
  by_cases h1 : b.length > 32768
  · rw [if_pos h1, decide_eq_true (by omega), forkB_true]
  rw [if_neg h1, decide_eq_false (by omega), forkB_false, forkB_if, Int.tmod_eq_emod_of_nonneg (by omega)]
  by_cases h2 : b.length % 8 = 0
  · rw [if_pos h2, if_neg (by simp; omega)]
    exact getL_r (b.length / 8) BIG [] b [] (by omega) hb (by simp; omega) (by simp; omega) (by unfold BIG; omega)
  · rw [if_neg h2, if_pos (by simp; omega)]
def encP : List Ins → Option (List Int)
  | [] => some []
  | i :: r => if rightP i = true then (match encP r with | none => none | some b => some (putP i ++ b)) else none
def putR (acc : List Int) : Option (List Int) → List Int × Int
  | none => ([], 4)
  | some b => (acc ++ b, 0)
theorem encP_step (i : Ins) (r : List Ins) (acc : List Int) : putR acc (encP (i :: r)) = if rightP i = true then putR (acc ++ putP i) (encP r) else ([], 4) := by
  show putR acc (if rightP i = true then (match encP r with | none => none | some b => some (putP i ++ b)) else none) = _
  by_cases h : rightP i = true
  · rw [if_pos h, if_pos h]
    cases encP r with
    | none => rfl
    | some b => show (acc ++ (putP i ++ b), (0 : Int)) = (acc ++ putP i ++ b, 0); rw [List.append_assoc]
  · rw [if_neg h, if_neg h]; rfl
theorem atPre {α : Type} (d : α) (pre : List α) (i : α) (r : List α) : (pre ++ i :: r).getD ((pre.length : Nat) : Int).toNat d = i := by
  rw [Int.toNat_natCast, List.getD_eq_getElem?_getD, List.getElem?_append_right (by omega), Nat.sub_self]; rfl
theorem putL_p : ∀ (l pre : List Ins) (n : Nat) (acc : List Int), pre.length + l.length ≤ 1000000 → acc.length + 8 * l.length ≤ 8000000 → l.length + 1 ≤ n → insPut_L0 n (pre ++ l) (((pre ++ l).length : Nat) : Int) ((pre.length : Nat) : Int) acc = some (putR acc (encP l))
  | [], pre, n, acc, _, _, hn => by
    obtain ⟨n, rfl⟩ : ∃ k, n = k + 1 := ⟨n - 1, by omega⟩
    rw [insPut_L0_eq, decide_eq_false (by rw [List.length_append]; simp), forkB_false]
    show _ = some (acc ++ [], (0 : Int))
    rw [List.append_nil]
  | i :: r, pre, n, acc, h1, h2, hn => by
    obtain ⟨n, rfl⟩ : ∃ k, n = k + 1 := ⟨n - 1, by omega⟩
    simp only [List.length_cons] at h1 h2 hn
    have ih := putL_p r (pre ++ [i]) n (acc ++ putP i) (by rw [List.length_append]; simp; omega) (by rw [List.length_append]; show acc.length + 8 + _ ≤ _; omega) (by omega)
    have hL : (pre ++ i :: r).length = pre.length + (r.length + 1) := by rw [List.length_append]; rfl
    rw [encP_step, insPut_L0_eq, decide_eq_true (by omega), forkB_true, if_pos (by omega), atPre, right_p, obind_of, forkB_if]
    by_cases hr : rightP i = true
    · rw [if_pos hr, hr, if_neg (by simp), bytes_p i (fit i hr), obind_of, if_pos (by show (acc.length + 8) * 1 ≤ _; omega), nx (len := pre.length + (r.length + 1)) (by omega) (by omega)]
      rw [show (pre ++ [i]).length = pre.length + 1 by simp, List.append_assoc] at ih
      exact ih
    · rw [if_neg hr, Bool.eq_false_iff.2 hr]; rfl
theorem putL_r : ∀ (l pre : List Ins) (n : Nat) (acc : List Int), pre.length + l.length ≤ 1000000 → acc.length + 8 * l.length ≤ 8000000 → l.length + 1 ≤ n → ref06Put_L0 n (pre ++ l) ((pre.length : Nat) : Int) acc = some (putR acc (encP l))
  | [], pre, n, acc, _, _, hn => by
    obtain ⟨n, rfl⟩ : ∃ k, n = k + 1 := ⟨n - 1, by omega⟩
    rw [ref06Put_L0_eq, decide_eq_false (by rw [List.length_append]; simp), forkB_false]
    show _ = some (acc ++ [], (0 : Int))
    rw [List.append_nil]
  | i :: r, pre, n, acc, h1, h2, hn => by
    obtain ⟨n, rfl⟩ : ∃ k, n = k + 1 := ⟨n - 1, by omega⟩
    simp only [List.length_cons] at h1 h2 hn
    have ih := putL_r r (pre ++ [i]) n (acc ++ putP i) (by rw [List.length_append]; simp; omega) (by rw [List.length_append]; show acc.length + 8 + _ ≤ _; omega) (by omega)
    have hL : (pre ++ i :: r).length = pre.length + (r.length + 1) := by rw [List.length_append]; rfl
    rw [encP_step, ref06Put_L0_eq, decide_eq_true (by omega), forkB_true, if_pos (by omega), atPre, right_r, obind_of, forkB_if]
    by_cases hr : rightP i = true
    · rw [if_pos hr, hr, if_neg (by simp), if_pos (by omega), bytes_r i (fit i hr), obind_of, if_pos (by show (acc.length + 8) * 1 ≤ _; omega), nx (len := pre.length + (r.length + 1)) (by omega) (by omega)]
      rw [show (pre ++ [i]).length = pre.length + 1 by simp, List.append_assoc] at ih
      exact ih
    · rw [if_neg hr, Bool.eq_false_iff.2 hr]; rfl
def putsP (l : List Ins) : List Int × Int := if l.length > 4096 then ([], 3) else putR [] (encP l)
theorem put_p (l : List Ins) : insPut BIG l = some (putsP l) := by
  rw [insPut_eq]
  unfold putsP
  by_cases h1 : l.length > 4096
  · rw [if_pos h1, decide_eq_true (by omega), forkB_true]
  rw [if_neg h1, decide_eq_false (by omega), forkB_false]
  exact putL_p l [] BIG [] (by simp; omega) (by simp; omega) (by unfold BIG; omega)
theorem put_r (l : List Ins) : ref06Put BIG l = some (putsP l) := by
  rw [ref06Put_eq]
  unfold putsP
  by_cases h1 : l.length > 4096
  · rw [if_pos h1, decide_eq_true (by omega), forkB_true]
  rw [if_neg h1, decide_eq_false (by omega), forkB_false]
  exact putL_r l [] BIG [] (by simp; omega) (by simp; omega) (by unfold BIG; omega)
end Go.Y
