/- Bytes of an instruction: the program and the document write the same. -/
import Derived.Test.YtdlmkfnjljlmgaaPc
namespace Go.Y
open Go.RowKit Go.V Go.X Go.Proofs

theorem u8w (x : Int) : IntKind.u8.wrap x = x % 256 := by unfold IntKind.wrap; simp [IntKind.bits, IntKind.signed]
theorem u16w (x : Int) : IntKind.u16.wrap x = x % 65536 := by unfold IntKind.wrap; simp [IntKind.bits, IntKind.signed]
theorem u32w (x : Int) : IntKind.u32.wrap x = x % 4294967296 := by unfold IntKind.wrap; simp [IntKind.bits, IntKind.signed]
structure Fit (i : Ins) : Prop where
  op : 1 ≤ i.Op ∧ i.Op ≤ 28
  dst : 0 ≤ i.Dst ∧ i.Dst ≤ 10
  src : 0 ≤ i.Src ∧ i.Src ≤ 10
  off : -32768 ≤ i.Off ∧ i.Off ≤ 32767
  imm : -2147483648 ≤ i.Imm ∧ i.Imm ≤ 2147483647
  sized : (i.Op = 14 ∨ i.Op = 15) → i.Narrow = false ∧ (i.Size = 1 ∨ i.Size = 2 ∨ i.Size = 4 ∨ i.Size = 8)
  plain : ¬ (i.Op = 14 ∨ i.Op = 15) → i.Size = 0
theorem fit (i : Ins) (h : rightP i = true) : Fit i := by
  unfold rightP at h
  constructor <;> grind [secondP, farP, regP, sizedP]
def upP (i : Ins) : Int := if i.Narrow = true then 1 else if i.Size = 2 then 1 else if i.Size = 4 then 2 else if i.Size = 8 then 3 else 0
def putP (i : Ins) : List Int := [i.Op + 64 * upP i + (if i.UseImm = true then 32 else 0), 16 * i.Dst + i.Src, i.Off % 65536 / 256, i.Off % 256, i.Imm % 4294967296 / 16777216, i.Imm % 4294967296 / 65536 % 256, i.Imm % 4294967296 / 256 % 256, i.Imm % 256]
theorem up_rng (i : Ins) : 0 ≤ upP i ∧ upP i ≤ 3 := by unfold upP; grind
theorem up_p (i : Ins) : ins_up BIG i = some (upP i) := by
  rw [ins_up_eq, index4, forkB_if]
  unfold upP
  by_cases hn : i.Narrow = true
  · rw [if_pos hn, if_pos hn]
  rw [if_neg hn, if_neg hn]
  simp only [forkB_if, beq_iff_eq]
  by_cases h1 : i.Size = 1
  · rw [h1]; rfl
  by_cases h2 : i.Size = 2
  · rw [h2]; rfl
  by_cases h4 : i.Size = 4
  · rw [h4]; rfl
  by_cases h8 : i.Size = 8
  · rw [h8]; rfl
  rw [if_neg h1, if_neg h2, if_neg h4, if_neg h8, if_neg h2, if_neg h4, if_neg h8]; rfl
theorem top_tab : ∀ o : Fin 32, ∀ u : Fin 4, bOr .u8 (o.val : Int) (sShl .u8 (IntKind.u8.wrap (u.val : Int)) 6) = (o.val : Int) + 64 * (u.val : Int) := by decide +kernel
theorem top_tab32 : ∀ o : Fin 32, ∀ u : Fin 4, bOr .u8 (bOr .u8 (o.val : Int) (sShl .u8 (IntKind.u8.wrap (u.val : Int)) 6)) 32 = (o.val : Int) + 64 * (u.val : Int) + 32 := by decide +kernel
theorem two_tab : ∀ d : Fin 16, ∀ s : Fin 16, bOr .i64 (sShl .i64 (d.val : Int) 4) (s.val : Int) = 16 * (d.val : Int) + (s.val : Int) := by decide +kernel
theorem ofFin {x : Int} (m : Nat) (h : 0 ≤ x ∧ x < m) : ∃ o : Fin m, x = (o.val : Int) := ⟨⟨x.toNat, by omega⟩, by simp; omega⟩
theorem shr (k : IntKind) (x : Int) (s : Int) (m : Nat) (h : min s.toNat k.bits = m) : sShr k x s = x / 2 ^ m := by
  unfold sShr; rw [h]; exact Int.fdiv_eq_ediv_of_nonneg x (Int.pow_nonneg (by decide))
theorem shr8 (x : Int) : sShr .u16 x 8 = x / 256 := shr _ _ _ 8 rfl
theorem shr24 (x : Int) : sShr .u32 x 24 = x / 16777216 := shr _ _ _ 24 rfl
theorem shr16 (x : Int) : sShr .u32 x 16 = x / 65536 := shr _ _ _ 16 rfl
theorem shr8' (x : Int) : sShr .u32 x 8 = x / 256 := shr _ _ _ 8 rfl
theorem bytes_p (i : Ins) (h : Fit i) : ins_put BIG i = some (putP i) := by
  have e2 : bOr .i64 (sShl .i64 i.Dst 4) i.Src = 16 * i.Dst + i.Src := by
    obtain ⟨d, hd⟩ := ofFin 16 (x := i.Dst) (by have := h.dst; omega)
    obtain ⟨s, hs⟩ := ofFin 16 (x := i.Src) (by have := h.src; omega)
    rw [hd, hs]; exact two_tab d s
  have hd := h.dst; have hs := h.src; have ho := h.off; have hi := h.imm
  obtain ⟨o, ho'⟩ := ofFin 32 (x := i.Op) (by have := h.op; omega)
  obtain ⟨u, hu⟩ := ofFin 4 (x := upP i) (by have := up_rng i; omega)
  rw [ins_put_eq, up_p, obind_of, forkB_if]
  unfold putP
  rw [ins_put_J0_eq, ins_put_J0_eq, e2]
  by_cases hU : i.UseImm = true
  · rw [if_pos hU, if_pos hU, hu, ho', top_tab32]
    simp only [u8w, u16w, u32w, shr8, shr24, shr16, shr8']
    refine congrArg some ?_
    simp only [List.cons.injEq, and_true, true_and]
    and_intros <;> first | trivial | omega
  · rw [if_neg hU, if_neg hU, hu, ho', top_tab]
    simp only [u8w, u16w, u32w, shr8, shr24, shr16, shr8']
    refine congrArg some ?_
    simp only [List.cons.injEq, and_true]
    and_intros <;> first | trivial | omega
theorem bytes_r (i : Ins) (h : Fit i) : ref06_bytes BIG i = some (putP i) := by
  obtain ⟨op, nw, d, s, u, off, imm, sz⟩ := i
  obtain ⟨h1, h2, h3, h4, h5, h6, h7⟩ := h
  simp only at h1 h2 h3 h4 h5 h6 h7
  have j4 : ∀ (n : Nat) (x y z : Int), 0 ≤ x ∧ x ≤ 255 → 0 ≤ y ∧ y ≤ 65535 → 0 ≤ z ∧ z ≤ 4294967295 → ref06_bytes_J4 (n + 1) x y z op nw d s u off imm sz = some [x, 16 * d + s, y / 256, y % 256, z / 16777216, z / 65536 % 256, z / 256 % 256, z % 256] := by
    intro n x y z hx hy hz
    rw [ref06_bytes_J4_eq]
    simp (disch := omega) only [Int.tdiv_eq_ediv_of_nonneg, Int.tmod_eq_emod_of_nonneg, wrap64]
    simp only [u8w]
    refine congrArg some ?_
    simp only [List.cons.injEq, and_true]
    and_intros <;> first | trivial | omega
  have j2 : ∀ (n : Nat) (x : Int), 0 ≤ x ∧ x ≤ 255 → ref06_bytes_J2 (n + 3) x op nw d s u off imm sz = some [x, 16 * d + s, off % 65536 / 256, off % 256, imm % 4294967296 / 16777216, imm % 4294967296 / 65536 % 256, imm % 4294967296 / 256 % 256, imm % 256] := by
    intro n x hx
    have j3 : ∀ y, 0 ≤ y ∧ y ≤ 65535 → ref06_bytes_J3 (n + 2) x y imm op nw d s u off imm sz = some [x, 16 * d + s, y / 256, y % 256, imm % 4294967296 / 16777216, imm % 4294967296 / 65536 % 256, imm % 4294967296 / 256 % 256, imm % 256] := by
      intro y hy
      rw [ref06_bytes_J3_eq, forkB_if]
      by_cases hi : imm < 0
      · rw [if_pos (by simpa using hi), wrap64 (by omega), j4 _ _ _ _ hx hy (by omega), show imm % 4294967296 = imm + 4294967296 by omega, show imm % 256 = (imm + 4294967296) % 256 by omega]
      · rw [if_neg (by simpa using hi), j4 _ _ _ _ hx hy (by omega), show imm % 4294967296 = imm by omega]
    rw [ref06_bytes_J2_eq, forkB_if]
    by_cases hi : off < 0
    · rw [if_pos (by simpa using hi), wrap64 (by omega), j3 _ (by omega), show off % 65536 = off + 65536 by omega, show off % 256 = (off + 65536) % 256 by omega]
    · rw [if_neg (by simpa using hi), j3 _ (by omega), show off % 65536 = off by omega]
  have j1 : ∀ (n : Nat) (x : Int), 0 ≤ x ∧ x ≤ 127 → (sz ≠ 0 → x ≤ 63) → ref06_bytes_J1 (n + 4) x op nw d s u off imm sz = some [x + 64 * (if sz = 2 then 1 else if sz = 4 then 2 else if sz = 8 then 3 else 0), 16 * d + s, off % 65536 / 256, off % 256, imm % 4294967296 / 16777216, imm % 4294967296 / 65536 % 256, imm % 4294967296 / 256 % 256, imm % 256] := by
    intro n x hx hx'
    rw [ref06_bytes_J1_eq]
    simp only [forkB_if, beq_iff_eq]
    by_cases a2 : sz = 2
    · rw [if_pos a2, if_pos a2, wrap64 (by omega), j2 _ _ (by omega)]; rfl
    rw [if_neg a2, if_neg a2]
    by_cases a4 : sz = 4
    · rw [if_pos a4, if_pos a4, wrap64 (by omega), j2 _ _ (by omega)]; rfl
    rw [if_neg a4, if_neg a4]
    by_cases a8 : sz = 8
    · rw [if_pos a8, if_pos a8, wrap64 (by omega), j2 _ _ (by omega)]; rfl
    rw [if_neg a8, if_neg a8, j2 _ _ (by omega)]; simp
  rw [ref06_bytes_eq]
  simp only [forkB_if, ref06_bytes_J0_eq]
  unfold putP upP
  simp only
  have hz : nw = true → sz = 0 := by
    intro hn
    by_cases hs : op = 14 ∨ op = 15
    · have := (h6 hs).1; rw [hn] at this; cases this
    · exact h7 hs
  have ho := wrap64 (x := op) (by omega)
  cases hu : u <;> cases hn : nw <;> subst hu <;> subst hn <;> simp (disch := omega) only [wrap64, if_true, if_false, Bool.false_eq_true]
  · rw [j1 _ _ (by omega) (by omega)]; simp
  · rw [j1 _ _ (by omega) (fun h => absurd (hz rfl) h), hz rfl]; simp
  · rw [j1 _ _ (by omega) (by omega)]; refine congrArg some ?_; simp only [List.cons.injEq, and_true]; omega
  · rw [j1 _ _ (by omega) (fun h => absurd (hz rfl) h), hz rfl]; refine congrArg some ?_; simp; omega
end Go.Y
