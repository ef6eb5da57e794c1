/- Scans: the first place at which something is wrong. What can be reached. -/
import Derived.Test.YtdlmkfnjljlmgaaPc
import Derived.Test.YtdlmkfnjljlmgaaIe
namespace Go.Y
open Go.RowKit Go.V Go.X Go.Proofs

def scan (code : Nat → Int) : Nat → Nat → Option Fault
  | _, 0 => none
  | k, m + 1 => if code k = 0 then scan code (k + 1) m else some ⟨code k, (k : Int)⟩
theorem scan_none (code : Nat → Int) : ∀ m k, (∀ j, k ≤ j → j < k + m → code j = 0) → scan code k m = none
  | 0, _, _ => rfl
  | m + 1, k, h => by
    unfold scan
    rw [if_pos (h k (by omega) (by omega))]
    exact scan_none code m (k + 1) fun j h1 h2 => h j (by omega) (by omega)
theorem scan_cong (c d : Nat → Int) : ∀ m k, (∀ j, k ≤ j → j < k + m → c j = d j) → scan c k m = scan d k m
  | 0, _, _ => rfl
  | m + 1, k, h => by
    unfold scan
    rw [h k (by omega) (by omega), scan_cong c d m (k + 1) fun j h1 h2 => h j (by omega) (by omega)]
theorem scanE {α : Type} (f : Nat → Nat → Option α) (p : α → Fault) (code : Nat → Int) (c len b : Nat) (F : Fault)
    (step : ∀ n k, k < len → b ≤ n → (code k = 0 ∧ f (n + c) k = f n (k + 1)) ∨ (code k ≠ 0 ∧ ∃ Y, f (n + c) k = some Y ∧ p Y = ⟨code k, (k : Int)⟩))
    (hend : (∀ k, k < len → code k = 0) → ∀ n, b ≤ n → ∃ Y, f n len = some Y ∧ p Y = F) :
    ∀ m k n, k + m = len → c * m + b ≤ n → (∀ j, j < k → code j = 0) → ∃ Y, f n k = some Y ∧ p Y = (scan code k m).getD F
  | 0, k, n, hk, hn, h => by
    have : k = len := by omega
    subst this
    exact hend h n (by omega)
  | m + 1, k, n, hk, hn, h => by
    rw [Nat.mul_succ] at hn
    obtain ⟨n', rfl⟩ : ∃ n', n = n' + c := ⟨n - c, by omega⟩
    unfold scan
    rcases step n' k (by omega) (by omega) with ⟨h1, h2⟩ | ⟨h1, Y, h2, h3⟩
    · rw [if_pos h1, h2]
      exact scanE f p code c len b F step hend m (k + 1) n' (by omega) (by omega) (fun j hj => by
        by_cases e : j = k
        · subst e; exact h1
        · exact h j (by omega))
    · rw [if_neg h1]; exact ⟨Y, h2, h3⟩
theorem iterP {α σ : Type} (f : Nat → σ → Nat → Option α) (P : Nat → σ → Prop) (c len : Nat)
    (step : ∀ n s k, k < len → c ≤ n → P k s → ∃ n' s', n ≤ n' + c ∧ P (k + 1) s' ∧ f n s k = f n' s' (k + 1)) :
    ∀ (m k n : Nat) (s : σ), k + m = len → c * m ≤ n → P k s → ∃ n' s', n ≤ n' + c * m ∧ P len s' ∧ f n s k = f n' s' len
  | 0, k, n, s, hk, hn, h => ⟨n, s, by omega, by rw [← hk]; exact h, by rw [show k = len by omega]⟩
  | m + 1, k, n, s, hk, hn, h => by
    rw [Nat.mul_succ] at hn
    obtain ⟨n1, s1, a1, a2, a3⟩ := step n s k (by omega) (by omega) h
    obtain ⟨n2, s2, b1, b2, b3⟩ := iterP f P c len step m (k + 1) n1 s1 (by omega) (by omega) a2
    exact ⟨n2, s2, by rw [Nat.mul_succ]; omega, b2, by rw [a3, b3]⟩
/-- marks. -/
def foldT (xs : List Int) (r : List Bool) : List Bool := xs.foldl (fun r x => r.set x.toNat true) r
def stepP (l : List Ins) (r : List Bool) (k : Nat) : List Bool := if r.getD k false = true then foldT (nextP l (k : Int)) r else r
def stP (l : List Ins) : Nat → List Bool
  | 0 => (List.replicate l.length false).set 0 true
  | k + 1 => stepP l (stP l k) k
theorem foldT_len : ∀ (xs : List Int) (r : List Bool), (foldT xs r).length = r.length
  | [], _ => rfl
  | x :: xs, r => by
    show (foldT xs (r.set x.toNat true)).length = _
    rw [foldT_len xs, List.length_set]
theorem stP_len (l : List Ins) : ∀ k, (stP l k).length = l.length
  | 0 => by unfold stP; rw [List.length_set, List.length_replicate]
  | k + 1 => by
    unfold stP stepP
    split
    · rw [foldT_len, stP_len l k]
    · exact stP_len l k
theorem set_self (r : List Bool) (k : Nat) : r.set k (r.getD k false) = r := by
  by_cases h : k < r.length
  · rw [List.getD_eq_getElem?_getD, List.getElem?_eq_getElem h]
    exact List.set_getElem_self h
  · exact List.set_eq_of_length_le (by omega)
theorem getD_set (r : List Bool) (k j : Nat) (b : Bool) : (r.set k b).getD j false = if k = j ∧ j < r.length then b else r.getD j false := by
  rw [List.getD_eq_getElem?_getD, List.getD_eq_getElem?_getD, List.getElem?_set]
  by_cases h : k = j
  · subst h
    by_cases h2 : k < r.length
    · rw [if_pos rfl, if_pos h2, if_pos ⟨rfl, h2⟩]; rfl
    · rw [if_pos rfl, if_neg h2, if_neg (fun h => h2 h.2), List.getElem?_eq_none (by omega)]
  · rw [if_neg h, if_neg (fun h' => h h'.1)]
theorem foldT_mono : ∀ (xs : List Int) (r : List Bool) (j : Nat), r.getD j false = true → (foldT xs r).getD j false = true
  | [], _, _, h => h
  | x :: xs, r, j, h => by
    refine foldT_mono xs (r.set x.toNat true) j ?_
    rw [getD_set]; split
    · rfl
    · exact h
theorem foldT_in : ∀ (xs : List Int) (r : List Bool) (x : Int), x ∈ xs → x.toNat < r.length → (foldT xs r).getD x.toNat false = true
  | y :: xs, r, x, hx, hl => by
    show (foldT xs (r.set y.toNat true)).getD x.toNat false = true
    rcases List.mem_cons.1 hx with rfl | hx
    · refine foldT_mono xs _ _ ?_
      rw [getD_set, if_pos ⟨rfl, hl⟩]
    · exact foldT_in xs _ x hx (by rw [List.length_set]; exact hl)
theorem foldT_out : ∀ (xs : List Int) (r : List Bool) (j : Nat), (∀ x ∈ xs, x.toNat ≠ j) → (foldT xs r).getD j false = r.getD j false
  | [], _, _, _ => rfl
  | x :: xs, r, j, h => by
    show (foldT xs (r.set x.toNat true)).getD j false = _
    rw [foldT_out xs _ j (fun y hy => h y (List.mem_cons_of_mem _ hy)), getD_set, if_neg (fun h' => h x (List.mem_cons_self) h'.1)]
theorem foldT_take (xs : List Int) (r : List Bool) (j : Nat) (h : j < xs.length) : foldT (xs.take (j + 1)) r = (foldT (xs.take j) r).set (xs.getD j 0).toNat true := by
  unfold foldT
  rw [List.take_add_one, List.foldl_append, List.getElem?_eq_getElem h, List.getD_eq_getElem?_getD, List.getElem?_eq_getElem h]; rfl
/-- all goes forward, and stays within. -/
def Fwd (l : List Ins) : Prop := ∀ k, k < l.length → ∀ x ∈ nextP l (k : Int), (k : Int) < x ∧ x < l.length
theorem stP_stable {l : List Ins} (h : Fwd l) (j : Nat) : ∀ d, j + d ≤ l.length → (stP l (j + d)).getD j false = (stP l j).getD j false
  | 0, _ => rfl
  | d + 1, hd => by
    rw [← stP_stable h j d (by omega)]
    show (stepP l (stP l (j + d)) (j + d)).getD j false = _
    unfold stepP
    split
    · refine foldT_out _ _ _ fun x hx => ?_
      have := h (j + d) (by omega) x hx
      omega
    · rfl
theorem stP_mono (l : List Ins) (j k : Nat) (h : (stP l k).getD j false = true) : ∀ d, (stP l (k + d)).getD j false = true
  | 0 => h
  | d + 1 => by
    show (stepP l (stP l (k + d)) (k + d)).getD j false = true
    unfold stepP
    split
    · exact foldT_mono _ _ _ (stP_mono l j k h d)
    · exact stP_mono l j k h d
theorem stP_closed {l : List Ins} (h : Fwd l) (k : Nat) (hk : k < l.length) (hr : (stP l l.length).getD k false = true) (x : Int) (hx : x ∈ nextP l (k : Int)) : (stP l l.length).getD x.toNat false = true := by
  have hb := h k hk x hx
  have e := stP_stable h k (l.length - k) (by omega)
  rw [show k + (l.length - k) = l.length by omega, hr] at e
  have : (stP l (k + 1)).getD x.toNat false = true := by
    show (stepP l (stP l k) k).getD x.toNat false = true
    unfold stepP
    rw [if_pos e.symm]
    exact foldT_in _ _ _ hx (by rw [stP_len]; omega)
  have := stP_mono l x.toNat (k + 1) this (l.length - (k + 1))
  rwa [show k + 1 + (l.length - (k + 1)) = l.length by omega] at this
def c1 (l : List Ins) (k : Nat) : Int := if rightP (l.getD k dIns) = true then 0 else 4
def jumpB (i : Ins) : Bool := decide (16 ≤ i.Op) && decide (i.Op ≤ 27)
def c2 (l : List Ins) (k : Nat) : Int := if jumpB (l.getD k dIns) = true then (if (l.getD k dIns).Off < 0 then 100 else if (k : Int) + 1 + (l.getD k dIns).Off ≥ (l.length : Int) then 101 else 0) else 0
def c3 (l : List Ins) (k : Nat) : Int := if k + 1 = l.length ∧ (l.getD k dIns).Op ≠ 28 ∧ (l.getD k dIns).Op ≠ 16 then 102 else 0
def c4 (l : List Ins) (k : Nat) : Int := if (stP l (k + 1)).getD k false = true then 0 else 103
def checkP (l : List Ins) : Fault :=
  if l.length = 0 then ⟨6, 0⟩ else if l.length > 4096 then ⟨3, 0⟩ else
    (scan (c1 l) 0 l.length).getD ((scan (c2 l) 0 l.length).getD ((scan (c3 l) 0 l.length).getD ((scan (c4 l) 0 l.length).getD ⟨0, 0⟩)))
theorem c1_right {l : List Ins} {k : Nat} (h : c1 l k = 0) : rightP (l.getD k dIns) = true := by
  unfold c1 at h
  split at h
  · assumption
  · cases h
theorem right_off (i : Ins) (h : rightP i = true) : -32768 ≤ i.Off ∧ i.Off ≤ 32767 ∧ 1 ≤ i.Op ∧ i.Op ≤ 28 := by
  unfold rightP at h
  grind [secondP, farP, regP, sizedP]
theorem fwd_of {l : List Ins} (hl : l.length ≤ 4096) (h1 : ∀ k, k < l.length → c1 l k = 0) (h2 : ∀ k, k < l.length → c2 l k = 0) (h3 : ∀ k, k < l.length → c3 l k = 0) : Fwd l := by
  intro k hk x hx
  have r := c1_right (h1 k hk)
  have a2 := h2 k hk
  have a3 := h3 k hk
  have ro := right_off _ r
  unfold c2 jumpB at a2
  unfold c3 at a3
  unfold nextP at hx
  rw [if_pos (by omega)] at hx
  simp only [Int.toNat_natCast] at hx
  generalize l.getD k dIns = i at *
  split at hx
  · rename_i hc
    obtain ⟨_, h28⟩ := hc
    rw [wrap64 (x := (k : Int) + 1) (by omega), wrap64 (by omega)] at hx
    unfold behindP at hx
    by_cases h16 : i.Op = 16
    · rw [if_pos h16] at hx
      simp only [List.mem_cons, List.not_mem_nil, or_false] at hx
      subst hx
      rw [if_pos (by simp; omega)] at a2
      split at a2
      · cases a2
      · split at a2
        · cases a2
        · omega
    · rw [if_neg h16] at hx
      have hlast : k + 1 ≠ l.length := by
        intro he
        rw [if_pos ⟨he, h28, h16⟩] at a3; cases a3
      by_cases hj : 17 ≤ i.Op ∧ i.Op ≤ 27
      · rw [if_pos hj] at hx
        rw [if_pos (by simp; omega)] at a2
        split at a2
        · cases a2
        · split at a2
          · cases a2
          · split at hx
            · simp only [List.mem_cons, List.not_mem_nil, or_false] at hx
              rcases hx with rfl | rfl <;> omega
            · split at hx
              · simp only [List.mem_cons, List.not_mem_nil, or_false] at hx
                rcases hx with rfl | rfl <;> omega
              · simp only [List.mem_cons, List.not_mem_nil, or_false] at hx
                subst hx; omega
      · rw [if_neg hj] at hx
        simp only [List.mem_cons, List.not_mem_nil, or_false] at hx
        subst hx; omega
  · cases hx
end Go.Y
