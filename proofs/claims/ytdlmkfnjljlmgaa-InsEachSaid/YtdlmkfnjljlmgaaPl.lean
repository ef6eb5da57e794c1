/- Bytes lent and kept; what is written is read again; the law InsBytes. -/
import Derived.Test.YtdlmkfnjljlmgaaPj
import Derived.Test.YtdlmkfnjljlmgaaPq
namespace Go.Y
open Go.RowKit Go.V Go.X Go.Proofs

def markB (k : Nat) : Int := IntKind.u8.wrap (sShr .u64 (IntKind.u64.wrap ((IntKind.u64.wrap (IntKind.i64.wrap (8000024 + (k : Int)))) * (11400714819323198485 : Int))) (56 : Int))
theorem markByte_p (k : Nat) : kit_markByte BIG 1 (k : Int) = some (markB k) := by
  rw [kit_markByte_eq, kit_mark_eq]; rfl
def marksB : List Int := (List.range 12).map markB
theorem lentBytes (l : List Int) (h : l.length ≤ 1000000) : kitLentBytes_g1 BIG l = some ((), ((l ++ marksB, 0, l.length), ())) := by
  rw [kitLentBytes_g1_eq, wrap64 (by omega), if_pos (by omega), if_pos (by simp; omega)]
  have := loop0 (fun n k => kitLentBytes_g1_L0 n l (k : Int) (l ++ (List.range k).map markB)) 1 12 (some ((), ((l ++ marksB, 0, l.length), ()))) (fun n k hk => ?_) (fun n => ?_) BIG (by decide)
  · simpa using this
  · show kitLentBytes_g1_L0 (n + 1) l (k : Int) _ = kitLentBytes_g1_L0 n l ((k + 1 : Nat) : Int) _
    rw [kitLentBytes_g1_L0_eq, decide_eq_true (by omega), forkB_true, markByte_p, obind_of, if_pos (by simp; omega), nx (len := 12) hk (by omega), List.append_assoc, List.range_succ, List.map_append]
    rfl
  · show kitLentBytes_g1_L0 (n + 1) l ((12 : Nat) : Int) _ = _
    rw [kitLentBytes_g1_L0_eq, decide_eq_false (by omega), forkB_false, if_pos ⟨by omega, by omega, by rw [List.length_append]; omega⟩]
    simp [marksB]
theorem keptBytes (l : List Int) (h : l.length ≤ 1000000) : kitKeptBytes_g1 BIG (l ++ marksB) 0 l.length l = some ((l ++ marksB, ()), (true, ())) := by
  have hm : marksB.length = 12 := rfl
  rw [kitKeptBytes_g1_eq, wrap64 (by omega), show (((l.length : Nat) : Int) != ((l.length : Nat) : Int)) = false by simp, forkB_false, if_pos (by rw [List.length_append, hm]; omega)]
  rw [show (((l.length : Nat) : Int) + 12).toNat - 0 = l.length + 12 by omega]
  refine loop0 (fun n k => kitKeptBytes_g1_L0 n l 0 (l.length + 12) (k : Int) (l ++ marksB)) 2 (l.length + 12) _ (fun n k hk => ?_) (fun n => ?_) BIG (by unfold BIG; omega)
  · show kitKeptBytes_g1_L0 (n + 1 + 1) l 0 (l.length + 12) (k : Int) (l ++ marksB) = kitKeptBytes_g1_L0 n l 0 (l.length + 12) ((k + 1 : Nat) : Int) (l ++ marksB)
    have e : ∀ b, kitKeptBytes_g1_J1 (n + 1) l 0 (l.length + 12) (k : Int) b (l ++ marksB) = if b = true then some ((l ++ marksB, ()), (false, ())) else kitKeptBytes_g1_L0 n l 0 (l.length + 12) ((k + 1 : Nat) : Int) (l ++ marksB) := by
      intro b
      rw [kitKeptBytes_g1_J1_eq, nx hk (by omega), forkB_if]
    have hk2 : 0 + (k : Int).toNat < (l ++ marksB).length := by rw [List.length_append, hm]; omega
    rw [kitKeptBytes_g1_L0_eq, decide_eq_true (by omega), forkB_true]
    by_cases hkl : k < l.length
    · rw [decide_eq_true (by omega), forkB_true, if_pos (by omega), if_pos hk2, if_pos (by omega)]
      have : (l ++ marksB).getD (0 + (k : Int).toNat) 0 = l.getD (k : Int).toNat 0 := by
        rw [Nat.zero_add, List.getD_eq_getElem?_getD, List.getD_eq_getElem?_getD, List.getElem?_append_left (by omega)]
      rw [this]
      simp only [beq_self_eq_true, Bool.not_true, forkB_false]
      rw [decide_eq_false (by omega), forkB_false, e, if_neg (by simp)]
    · rw [decide_eq_false (by omega), forkB_false, decide_eq_true (by omega), forkB_true, if_pos (by omega), if_pos hk2, wrap64 (by omega), show ((k : Int) - (l.length : Int)) = ((k - l.length : Nat) : Int) by omega, markByte_p, obind_of]
      have : (l ++ marksB).getD (0 + (k : Int).toNat) 0 = markB (k - l.length) := by
        rw [Nat.zero_add, List.getD_eq_getElem?_getD, List.getElem?_append_right (by omega), show (k : Int).toNat = k by omega]
        unfold marksB
        rw [List.getElem?_map, List.getElem?_range (by omega)]; rfl
      rw [this]
      simp only [beq_self_eq_true, Bool.not_true]
      rw [e, if_neg (by simp)]
  · show kitKeptBytes_g1_L0 (n + 1) l 0 (l.length + 12) ((l.length + 12 : Nat) : Int) (l ++ marksB) = _
    rw [kitKeptBytes_g1_L0_eq, decide_eq_false (by omega), forkB_false]
theorem encP_len : ∀ (l : List Ins) (b : List Int), encP l = some b → b.length = 8 * l.length
  | [], b, h => by cases h; rfl
  | i :: r, b, h => by
    unfold encP at h
    split at h
    · split at h
      · cases h
      · rename_i c hc
        cases h
        have := encP_len r c hc
        rw [List.length_append, List.length_cons, this]; show 8 + _ = _; omega
    · cases h
theorem decP_len : ∀ (m : Nat) (b : List Int) (l : List Ins), decP m b = some l → l.length = m
  | 0, b, l, h => by cases h; rfl
  | m + 1, b, l, h => by
    unfold decP at h
    split at h
    · cases h
    · split at h
      · cases h
      · rename_i c hc
        cases h
        rw [List.length_cons, decP_len m _ c hc]
theorem puts_len (l : List Ins) (h : l.length ≤ 1000000) : (putsP l).1.length ≤ 8 * l.length := by
  unfold putsP
  split
  · simp
  · cases he : encP l with
    | none => simp [putR]
    | some b => have := encP_len l b he; simp [putR]; omega
theorem gets_len (b : List Int) (h : b.length ≤ 1000000) : (getsP b).1.length ≤ b.length := by
  unfold getsP
  split
  · simp
  · split
    · cases hd : decP (b.length / 8) b with
      | none => simp [getR]
      | some l => have := decP_len _ b l hd; simp [getR]; omega
    · simp
theorem insBytes_true (l : List Ins) (b : List Int) (hb : ∀ x ∈ b, Byte x) : law06InsBytes BIG l b = some true := by
  rw [law06InsBytes_eq, awake06, obind_of, Bool.not_true, forkB_false]
  by_cases hl : ((l.length : Nat) : Int) > 400
  · rw [decide_eq_true hl, forkB_true, law06InsBytes_J0_eq, forkB_true]
  rw [decide_eq_false hl, forkB_false]
  by_cases hc : ((b.length : Nat) : Int) > 4000
  · rw [decide_eq_true hc, law06InsBytes_J0_eq, forkB_true]
  rw [decide_eq_false hc, law06InsBytes_J0_eq, forkB_false, lentIns l (by omega), obind_of, lentBytes b (by omega), obind_of]
  have t1 : List.take l.length (List.drop 0 (l ++ marksI)) = l := by rw [List.drop_zero, List.take_left]
  have t2 : List.take b.length (List.drop 0 (b ++ marksB)) = b := by rw [List.drop_zero, List.take_left]
  have p1 := puts_len l (by omega)
  have p2 := gets_len b (by omega)
  simp only [t1, t2]
  rw [if_pos (by rw [List.length_append]; omega), put_p, obind_of, put_r, obind_of, if_pos (by rw [List.length_append]; omega), get_p b hb, obind_of, get_r b hb, obind_of]
  simp only [beq_self_eq_true, forkB_true]
  rw [sameBytes _ (by omega), obind_of, forkB_true, sameIns _ (by omega), obind_of, forkB_true, keptIns l (by omega), obind_of, forkB_true, keptBytes b (by omega), obind_of]
theorem goodBytes {b : List Int} (h : Go.X.Good TT (.list (.int .u8)) b) : ∀ x ∈ b, Byte x := fun x hx => Go.X.Good.int (T := TT) (k := .u8) ((Go.X.Good.list (T := TT) (e := .int .u8) h).2 x hx)
end Go.Y
