/- What is written is read again: the laws InsBack and InsLong. -/
import Derived.Test.YtdlmkfnjljlmgaaPl
namespace Go.Y
open Go.RowKit Go.V Go.X Go.Proofs

theorem cand_put (i : Ins) (h : rightP i = true) : candG (putP i) = i := by
  obtain ⟨h1, h2, h3, h4, h5, h6, h7⟩ := fit i h
  obtain ⟨op, nw, d, s, u, off, imm, sz⟩ := i
  simp only at h1 h2 h3 h4 h5 h6 h7
  have hup : 0 ≤ upP ⟨op, nw, d, s, u, off, imm, sz⟩ ∧ upP ⟨op, nw, d, s, u, off, imm, sz⟩ ≤ 3 := up_rng _
  have hn : (!decide (op = 14 ∨ op = 15) && upP ⟨op, nw, d, s, u, off, imm, sz⟩ == 1) = nw := by
    by_cases hs : op = 14 ∨ op = 15
    · rw [decide_eq_true hs, (h6 hs).1]; rfl
    · rw [decide_eq_false hs]
      have := h7 hs
      subst this
      cases nw <;> rfl
  have hz : (if op = 14 ∨ op = 15 then pow4 (upP ⟨op, nw, d, s, u, off, imm, sz⟩) else 0) = sz := by
    by_cases hs : op = 14 ∨ op = 15
    · rw [if_pos hs]
      obtain ⟨e1, e2⟩ := h6 hs
      subst e1
      rcases e2 with rfl | rfl | rfl | rfl <;> rfl
    · rw [if_neg hs, h7 hs]
  unfold candG putP cand
  simp only
  generalize upP ⟨op, nw, d, s, u, off, imm, sz⟩ = up at hup hn hz
  have q0 : (op + 64 * up + (if u = true then 32 else 0)) % 32 = op := by split <;> omega
  have q1 : (op + 64 * up + (if u = true then 32 else 0)) / 64 = up := by split <;> omega
  have q2 : ((op + 64 * up + (if u = true then 32 else 0)) / 32 % 2 == 1) = u := by
    cases u
    · rw [if_neg (by simp)]; simp; omega
    · rw [if_pos rfl]; simp; omega
  rw [q0, q1, q2, hn, hz]
  congr 1 <;> first | omega | (split <;> omega)
theorem one_put (i : Ins) (h : rightP i = true) : oneP (putP i) = some i := by
  unfold oneP goodB
  rw [cand_put i h, h, decide_eq_true rfl]; rfl
theorem one_some (b : List Int) (i : Ins) (h : oneP b = some i) : rightP i = true ∧ putP i = b := by
  unfold oneP at h
  split at h
  · rename_i hg
    cases h
    unfold goodB at hg
    rw [Bool.and_eq_true, decide_eq_true_iff] at hg
    exact hg
  · cases h
theorem enc_cons (i : Ins) (r : List Ins) (b : List Int) (h : encP (i :: r) = some b) : rightP i = true ∧ ∃ c, encP r = some c ∧ b = putP i ++ c := by
  have h : (if rightP i = true then (match encP r with | none => none | some b => some (putP i ++ b)) else none) = some b := h
  split at h
  · rename_i hr
    cases hc : encP r with
    | none => rw [hc] at h; cases h
    | some c => rw [hc] at h; cases h; exact ⟨hr, c, rfl, rfl⟩
  · cases h
theorem enc_cons' (i : Ins) (r : List Ins) (c : List Int) (hr : rightP i = true) (h : encP r = some c) : encP (i :: r) = some (putP i ++ c) := by
  show (if rightP i = true then (match encP r with | none => none | some b => some (putP i ++ b)) else none) = _
  rw [if_pos hr, h]
theorem enc_right : ∀ (l : List Ins) (b : List Int), encP l = some b → ∀ i ∈ l, rightP i = true
  | [], _, _, _, hi => by cases hi
  | j :: r, b, h, i, hi => by
    obtain ⟨hr, c, hc, rfl⟩ := enc_cons j r b h
    rcases List.mem_cons.1 hi with rfl | hi
    · exact hr
    · exact enc_right r c hc i hi
theorem enc_byte : ∀ (l : List Ins) (b : List Int), encP l = some b → ∀ x ∈ b, Byte x
  | [], _, h, x, hx => by cases h; cases hx
  | j :: r, b, h, x, hx => by
    obtain ⟨hr, c, hc, rfl⟩ := enc_cons j r b h
    rcases List.mem_append.1 hx with hx | hx
    · exact putP_byte j (fit j hr) x hx
    · exact enc_byte r c hc x hx
theorem enc_dec : ∀ (l : List Ins) (b : List Int), encP l = some b → decP l.length b = some l
  | [], b, h => rfl
  | i :: r, b, h => by
    obtain ⟨hr, c, hc, rfl⟩ := enc_cons i r b h
    show (match oneP (putP i) with | none => none | some i => match decP r.length c with | none => none | some l => some (i :: l)) = _
    rw [one_put i hr]; simp only [enc_dec r c hc]
theorem dec_enc : ∀ (m : Nat) (b : List Int) (l : List Ins), b.length = 8 * m → decP m b = some l → encP l = some b
  | 0, b, l, hb, h => by
    cases h
    have : b = [] := List.length_eq_zero_iff.1 (by omega)
    subst this; rfl
  | m + 1, b, l, hb, h => by
    unfold decP at h
    split at h
    · cases h
    · rename_i i hi
      split at h
      · cases h
      · rename_i l' hl'
        cases h
        obtain ⟨hr, hp⟩ := one_some _ _ hi
        have := enc_cons' i l' _ hr (dec_enc m (b.drop 8) l' (by rw [List.length_drop]; omega) hl')
        rw [this, hp, List.take_append_drop]
theorem enc_take : ∀ (l : List Ins) (b : List Int) (k : Nat), encP l = some b → encP (l.take k) = some (b.take (8 * k))
  | l, b, 0, h => rfl
  | [], b, k + 1, h => by cases h; rfl
  | i :: r, b, k + 1, h => by
    obtain ⟨hr, c, hc, rfl⟩ := enc_cons i r b h
    rw [List.take_succ_cons, enc_cons' i _ _ hr (enc_take r c k hc)]
    rw [show 8 * (k + 1) = (putP i).length + 8 * k by show _ = 8 + _; omega, List.take_append, List.take_of_length_le (l := putP i) (by omega), Nat.add_sub_cancel_left]
theorem gets_enc (l : List Ins) (b : List Int) (h : encP l = some b) (hl : l.length ≤ 4096) : getsP b = (l, 0) := by
  have hb := encP_len l b h
  unfold getsP
  rw [if_neg (by omega), if_pos (by omega), show b.length / 8 = l.length by omega, enc_dec l b h]; rfl
theorem gets_or (b : List Int) : (∃ e, e ≠ 0 ∧ getsP b = ([], e)) ∨ ∃ l, getsP b = (l, 0) ∧ encP l = some b ∧ l.length ≤ b.length ∧ l.length ≤ 4096 := by
  unfold getsP
  split
  · exact .inl ⟨3, by decide, rfl⟩
  · split
    · cases hd : decP (b.length / 8) b with
      | none => exact .inl ⟨4, by decide, rfl⟩
      | some l => exact .inr ⟨l, rfl, dec_enc _ b l (by omega) hd, by have := decP_len _ b l hd; omega, by have := decP_len _ b l hd; omega⟩
    · exact .inl ⟨4, by decide, rfl⟩
theorem puts_enc (l : List Ins) (hl : l.length ≤ 4096) : putsP l = putR [] (encP l) := by
  unfold putsP; rw [if_neg (by omega)]
theorem back_J1 (n : Nat) (hn : 5000 ≤ n) (b : List Int) (hb : ∀ x ∈ b, Byte x) (hl : b.length ≤ 4000) : law06InsBack_J1 (n + 1) b = some true := by
  rw [law06InsBack_J1_eq, get_p b hb, obind_of]
  rcases gets_or b with ⟨e, he, hg⟩ | ⟨l, hg, hE, hll, h4⟩
  · rw [hg]; simp only; rw [show (e != 0) = true by simpa using he, forkB_true]; rfl
  · rw [hg]; simp only
    rw [show ((0 : Int) != 0) = false from rfl, forkB_false]
    refine loop0 (fun n k => law06InsBack_L3 n b (k : Int) l) 1 l.length _ (fun n k hk => ?_) (fun n => ?_) n (by omega)
    · show law06InsBack_L3 (n + 1) b (k : Int) l = law06InsBack_L3 n b ((k + 1 : Nat) : Int) l
      have hm : rightP (l.getD (k : Int).toNat dIns) = true := enc_right l b hE _ (by
        rw [Int.toNat_natCast, List.getD_eq_getElem?_getD, List.getElem?_eq_getElem hk]; exact List.getElem_mem hk)
      rw [law06InsBack_L3_eq, decide_eq_true (by omega), forkB_true, if_pos (by omega), right_p, obind_of, hm, Bool.not_true, forkB_false, nx hk (by omega)]
    · show law06InsBack_L3 (n + 1) b ((l.length : Nat) : Int) l = some true
      rw [law06InsBack_L3_eq, decide_eq_false (by omega), forkB_false, put_p, obind_of, puts_enc l h4, hE]
      show forkB ((0 : Int) == 0) (obind (kitSameBytes BIG b b) _) _ = _
      rw [beq_self_eq_true, forkB_true, sameBytes b (by omega), obind_of]
theorem pick_p (x m : Int) (hm : 1 ≤ m ∧ m ≤ 4611686018427387904) : ∃ k : Nat, kitPick BIG x m = some ((k : Nat) : Int) ∧ (k : Int) < m := by
  rw [kitPick_eq, decide_eq_false (by omega), forkB_false, if_neg (by omega), forkB_if]
  have h1 : x.tmod m < m := Int.tmod_lt_of_pos x (by omega)
  have h2 : -m < x.tmod m := Int.lt_tmod_of_pos x (by omega)
  by_cases h : x.tmod m < 0
  · rw [if_pos (by simpa using h), wrap64 (by omega)]
    exact ⟨(x.tmod m + m).toNat, by rw [Int.toNat_of_nonneg (by omega)], by omega⟩
  · rw [if_neg (by simpa using h)]
    exact ⟨(x.tmod m).toNat, by rw [Int.toNat_of_nonneg (by omega)], by omega⟩
theorem insBack_true (l : List Ins) (b : List Int) (p : Int) (hb : ∀ x ∈ b, Byte x) : law06InsBack BIG l b p = some true := by
  rw [law06InsBack_eq, awake06, obind_of, Bool.not_true, forkB_false]
  by_cases hl : ((l.length : Nat) : Int) > 400
  · rw [decide_eq_true hl, forkB_true, law06InsBack_J0_eq, forkB_true]
  rw [decide_eq_false hl, forkB_false]
  by_cases hc : ((b.length : Nat) : Int) > 4000
  · rw [decide_eq_true hc, law06InsBack_J0_eq, forkB_true]
  rw [decide_eq_false hc, law06InsBack_J0_eq, forkB_false, put_p, obind_of, puts_enc l (by omega)]
  cases hE : encP l with
  | none =>
    show forkB ((4 : Int) == 0) _ _ = _
    rw [show ((4 : Int) == 0) = false from rfl, forkB_false]
    exact back_J1 _ (by decide) b hb (by omega)
  | some c =>
    have hcl := encP_len l c hE
    obtain ⟨k, hk, hk'⟩ := pick_p p (((l.length : Nat) : Int) + 1) (by omega)
    have w8 : IntKind.i64.wrap (8 * ((k : Nat) : Int)) = ((8 * k : Nat) : Int) := by rw [wrap64 (by omega)]; omega
    have ht : List.take ((((8 * k : Nat) : Int)).toNat - 0) (List.drop 0 c) = c.take (8 * k) := by rw [List.drop_zero]; congr 1
    have ht2 : List.take (((k : Nat) : Int).toNat - 0) (List.drop 0 l) = l.take k := by rw [List.drop_zero]; congr 1
    have hT := enc_take l c k hE
    show forkB ((0 : Int) == 0) (obind (insGet BIG c) _) _ = _
    rw [beq_self_eq_true, forkB_true, get_p c (enc_byte l c hE), gets_enc l c hE (by omega), obind_of, wrap64 (x := ((l.length : Nat) : Int) + 1) (by omega), hk, obind_of, w8]
    dsimp only
    rw [show (putR [] (some c)).1 = c from rfl, if_pos (by omega), if_pos (by omega), ht, get_p _ (enc_byte _ _ hT), gets_enc _ _ hT (by rw [List.length_take]; omega), obind_of]
    dsimp only
    rw [show ((0 : Int) != 0) = false from rfl, forkB_false, sameIns l (by omega), obind_of, Bool.not_true, forkB_false, forkB_false, if_pos (by omega), ht2, sameIns _ (by rw [List.length_take]; omega), obind_of, Bool.not_true, forkB_false, law06InsBack_J2_eq]
    rw [show (((c.length : Nat) : Int) != IntKind.i64.wrap (8 * ((l.length : Nat) : Int))) = false by rw [wrap64 (by omega)]; simp; omega, forkB_false]
    exact back_J1 _ (by decide) b hb (by omega)
/- LONG -/
theorem loopB {α : Type} (f : Nat → Nat → Option α) (c len b : Nat) (r : Option α) (hstep : ∀ n k, k < len → f (n + c) k = f n (k + 1)) (hend : ∀ n, b ≤ n → f (n + 1) len = r) : ∀ m k n, k + m = len → c * m + 1 + b ≤ n → f n k = r
  | 0, k, n, hk, hn => by
    obtain ⟨n', rfl⟩ : ∃ n', n = n' + 1 := ⟨n - 1, by omega⟩
    have : k = len := by omega
    subst this; exact hend n' (by omega)
  | m + 1, k, n, hk, hn => by
    obtain ⟨n', rfl⟩ : ∃ n', n = n' + c := ⟨n - c, by rw [Nat.mul_succ] at hn; omega⟩
    rw [hstep n' k (by omega)]
    exact loopB f c len b r hstep hend m (k + 1) n' (by omega) (by rw [Nat.mul_succ] at hn; omega)
def exitI : Ins := ⟨28, false, 0, 0, false, 0, 0, 0⟩
def rowE : List Int := [28, 0, 0, 0, 0, 0, 0, 0]
def rowsE : Nat → List Int
  | 0 => []
  | k + 1 => rowE ++ rowsE k
theorem rowsE_len : ∀ k, (rowsE k).length = 8 * k
  | 0 => rfl
  | k + 1 => by
    show (rowE ++ rowsE k).length = _
    rw [List.length_append, rowsE_len k]; show 8 + _ = _; omega
theorem rowsE_succ : ∀ k, rowsE (k + 1) = rowsE k ++ rowE
  | 0 => rfl
  | k + 1 => by
    show rowE ++ rowsE (k + 1) = (rowE ++ rowsE k) ++ rowE
    rw [rowsE_succ k, List.append_assoc]
theorem enc_exit : ∀ k, encP (List.replicate k exitI) = some (rowsE k)
  | 0 => rfl
  | k + 1 => by
    rw [List.replicate_succ, enc_cons' exitI _ _ (by decide) (enc_exit k)]; rfl
theorem rowsE_byte (k : Nat) : ∀ x ∈ rowsE k, Byte x := enc_byte _ _ (enc_exit k)
theorem set_at (a : List Int) (j : Nat) : (a ++ List.replicate (8 * (j + 1)) 0).set a.length 28 = (a ++ rowE) ++ List.replicate (8 * j) 0 := by
  rw [List.set_append_right _ _ (by omega), Nat.sub_self, List.append_assoc]
  rw [show 8 * (j + 1) = 8 * j + 8 by omega]
  rfl
theorem long_J1 (n : Nat) (z : Bool) (r : List Ins) (h3 : r.length > 4096 → (putsP r).2 = 3) (h4 : ¬ r.length > 4096 → z = true → (putsP r).2 = 4) (h0 : ¬ r.length > 4096 → z = false → (putsP r).2 = 0 ∧ (putsP r).1.length = 8 * r.length) (hr : r.length ≤ 1000000) : law06InsLong_J1 (n + 1) z r = law06InsLong_J2 n (decide (((r.length : Nat) : Int) > 4096)) false r := by
  rw [law06InsLong_J1_eq, put_p, obind_of]
  by_cases h : r.length > 4096
  · rw [decide_eq_true (show ((r.length : Nat) : Int) > 4096 by omega), h3 h]
    rfl
  · rw [decide_eq_false (show ¬ ((r.length : Nat) : Int) > 4096 by omega)]
    cases z with
    | true => rw [h4 h rfl]; rfl
    | false =>
      obtain ⟨e1, e2⟩ := h0 h rfl
      rw [e1, e2, show (((8 * r.length : Nat) : Int) != IntKind.i64.wrap (8 * ((r.length : Nat) : Int))) = false by rw [wrap64 (by omega)]; simp]
      rfl
theorem long_J2 (n : Nat) (hn : 5000 ≤ n) (r : List Ins) (hr : r.length ≤ 4200) : law06InsLong_J2 (n + 1) (decide (((r.length : Nat) : Int) > 4096)) false r = some true := by
  have w8 : IntKind.i64.wrap (8 * ((r.length : Nat) : Int)) = ((8 * r.length : Nat) : Int) := by rw [wrap64 (by omega)]; omega
  rw [law06InsLong_J2_eq, forkB_false, w8, if_pos (by omega), Int.toNat_natCast]
  refine loopB (fun n k => law06InsLong_L3 n (decide (((r.length : Nat) : Int) > 4096)) ((8 * k : Nat) : Int) r (rowsE k ++ List.replicate (8 * (r.length - k)) 0)) 1 r.length 3 _ (fun n k hk => ?_) (fun n hn => ?_) r.length 0 n (by omega) (by omega)
  · show law06InsLong_L3 (n + 1) _ ((8 * k : Nat) : Int) r _ = law06InsLong_L3 n _ ((8 * (k + 1) : Nat) : Int) r _
    have hL : (rowsE k ++ List.replicate (8 * (r.length - k)) (0 : Int)).length = 8 * r.length := by rw [List.length_append, rowsE_len, List.length_replicate]; omega
    have hs : (rowsE k ++ List.replicate (8 * (r.length - k)) (0 : Int)).set (8 * k) 28 = rowsE (k + 1) ++ List.replicate (8 * (r.length - (k + 1))) 0 := by
      have := set_at (rowsE k) (r.length - (k + 1))
      rw [rowsE_len, show r.length - (k + 1) + 1 = r.length - k by omega] at this
      rw [this, rowsE_succ]
    rw [law06InsLong_L3_eq, decide_eq_true (by omega), forkB_true, if_pos (by omega), Int.toNat_natCast, hs, wrap64 (by omega), show ((8 * k : Nat) : Int) + 8 = ((8 * (k + 1) : Nat) : Int) by omega]
  · show law06InsLong_L3 (n + 1) _ ((8 * r.length : Nat) : Int) r (rowsE r.length ++ List.replicate (8 * (r.length - r.length)) 0) = _
    rw [Nat.sub_self, show List.replicate (8 * 0) (0 : Int) = [] from rfl, List.append_nil, law06InsLong_L3_eq, decide_eq_false (by rw [rowsE_len]; omega), forkB_false, get_p _ (rowsE_byte _), obind_of]
    obtain ⟨n, rfl⟩ : ∃ k, n = k + 1 := ⟨n - 1, by omega⟩
    by_cases h : r.length > 4096
    · rw [decide_eq_true (show ((r.length : Nat) : Int) > 4096 by omega), forkB_true]
      have : getsP (rowsE r.length) = ([], 3) := by unfold getsP; rw [if_pos (by rw [rowsE_len]; omega)]
      rw [this]; rfl
    · rw [decide_eq_false (show ¬ ((r.length : Nat) : Int) > 4096 by omega), forkB_false, gets_enc _ _ (enc_exit r.length) (by rw [List.length_replicate]; omega)]
      simp only [List.length_replicate, beq_self_eq_true, forkB_true]
theorem insLong_true (p : Int) (z : Bool) : law06InsLong BIG p z = some true := by
  obtain ⟨j, hj, hj'⟩ := pick_p p 12 (by omega)
  have w : IntKind.i64.wrap (4090 + ((j : Nat) : Int)) = ((4090 + j : Nat) : Int) := by rw [wrap64 (by omega)]; omega
  rw [law06InsLong_eq, awake06, obind_of, Bool.not_true, forkB_false]
  refine loopB (fun n k => law06InsLong_L0 n p z (k : Int) (List.replicate k exitI)) 1 (4090 + j) 6000 _ (fun n k hk => ?_) (fun n hn => ?_) (4090 + j) 0 BIG (by omega) (by unfold BIG; omega)
  · show law06InsLong_L0 (n + 1) p z (k : Int) (List.replicate k exitI) = law06InsLong_L0 n p z ((k + 1 : Nat) : Int) (List.replicate (k + 1) exitI)
    rw [law06InsLong_L0_eq, hj, obind_of, w, decide_eq_true (by omega), forkB_true, if_pos (by rw [List.length_replicate]; omega), nx hk (by omega), List.replicate_succ']; rfl
  · show law06InsLong_L0 (n + 1) p z ((4090 + j : Nat) : Int) (List.replicate (4090 + j) exitI) = some true
    obtain ⟨n, rfl⟩ : ∃ k, n = k + 2 := ⟨n - 2, by omega⟩
    rw [law06InsLong_L0_eq, hj, obind_of, w, decide_eq_false (by omega), forkB_false]
    cases z with
    | false =>
      rw [forkB_false]
      have hp : ¬ (List.replicate (4090 + j) exitI).length > 4096 → putsP (List.replicate (4090 + j) exitI) = (rowsE (4090 + j), 0) := fun h => by rw [puts_enc _ (by omega), enc_exit]; rfl
      rw [long_J1 _ _ _ (fun h => by unfold putsP; rw [if_pos h]) (fun _ h => by cases h) (fun h _ => by rw [hp h]; exact ⟨rfl, by rw [rowsE_len, List.length_replicate]⟩) (by rw [List.length_replicate]; omega)]
      exact long_J2 _ (by omega) _ (by rw [List.length_replicate]; omega)
    | true =>
      rw [forkB_true, if_pos (by rw [List.length_replicate]; omega)]
      generalize hr : List.set (List.replicate (4090 + j) exitI) 0 _ = r
      have hlen : r.length = 4090 + j := by rw [← hr, List.length_set, List.length_replicate]
      have hE : encP r = none := by
        rw [← hr, show 4090 + j = (4089 + j) + 1 by omega, List.replicate_succ]; rfl
      rw [long_J1 _ _ _ (fun h => by unfold putsP; rw [if_pos h]) (fun h _ => by rw [puts_enc _ (by omega), hE]; rfl) (fun _ h => by cases h) (by omega)]
      exact long_J2 _ (by omega) _ (by omega)
end Go.Y
