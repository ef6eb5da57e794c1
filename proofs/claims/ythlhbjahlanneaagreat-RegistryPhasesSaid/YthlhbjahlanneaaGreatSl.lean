/- Slices that are made, appended to, cut, written; arrays as wholes. Nothing here is about one program. -/
import Derived.Test.YthlhbjahlanneaaGreatMem
namespace Go.V
open Go.RowKit

/-- The block of an owned slice, as a list. -/
def blks (ad : Option Addr) : List Nat := match ad with | some a => [a.block] | none => []
theorem Own.nil0 {w : World} {B : Nat} {e : TypeId} {sz : Nat} {ad : Option Addr} {n cap : Nat} {cs : List Value} (h : Own w B e sz ad n cap cs) (had : ad = none) : n = 0 ∧ cap = 0 := by
  rcases h.cases with ⟨_, h1, h2, _⟩ | ⟨c, h1, _⟩
  · exact ⟨h1, h2⟩
  · rw [had] at h1; cases h1
/-- Two slices that lie apart. -/
def Apart (a b : Option Addr) : Prop := a = none ∨ b = none ∨ bk a ≠ bk b
section
variable {P : Program} {ops : Array Oper} {Q : Exit → Act → World → Prop} {k n : Nat} {ds : List Deferred} {F : PF} {w : World}

/-- An element type's row: its number, its cells, its bytes, its zero's cells. -/
def eInfo (P : Program) (t : TypeId) : Option (TypeId × Nat × Nat × Array Value) :=
  match P.underlying t with
  | some (.slice e) => (match P.info? e with | some i => (match i.zero with | some z => (match Nat.beq z.cells.size i.size with | true => some (e, i.size, i.bytes, z.cells) | false => none) | none => none) | none => none)
  | _ => none
theorem eInfo_spec {t e : TypeId} {sz by_ : Nat} {zc : Array Value} (h : eInfo P t = some (e, sz, by_, zc)) :
    ∃ i z, P.underlying t = some (.slice e) ∧ P.info? e = some i ∧ i.zero = some z ∧ i.size = sz ∧ i.bytes = by_ ∧ z.cells = zc ∧ zc.size = sz := by
  unfold eInfo at h
  split at h
  · rename_i e' hu
    split at h
    · rename_i i hi
      split at h
      · rename_i z hz
        split at h
        · rename_i hb
          simp only [Option.some.injEq, Prod.mk.injEq] at h
          obtain ⟨rfl, rfl, rfl, rfl⟩ := h
          exact ⟨i, z, hu, hi, hz, rfl, rfl, rfl, Nat.eq_of_beq_eq_true hb⟩
        · cases h
      · cases h
    · cases h
  · cases h

def decMake (ops : Array Oper) (k n : Nat) (F : PF) : Option (Option Tmp × TypeId × Value × Value) :=
  match dec ops k n F with | some ⟨dst, .makeSlice t l c, _, _, _, _⟩ => some (dst, t, evD F l, evD F c) | _ => none
theorem WR.make {dst : Option Tmp} {t e : TypeId} {kl kc : IntKind} {l c : Int} {sz by_ : Nat} {zc : Array Value} (hd : decMake ops k n F = some (dst, t, .int kl l, .int kc c)) (hi : eInfo P t = some (e, sz, by_, zc)) (m m' : Nat) (hm : l = (m : Int)) (hm' : c = (m' : Int)) (hle : m ≤ m')
    (hbytes : by_ * m' ≤ 281474976710656) (h63 : m' ≤ 9223372036854775807)
    (K : ∀ g w', New w w' g (madeCells zc (m' * sz)) e → WR P ops Q (k + 1) n ds (upd F dst (.slice (some ⟨g, 0, none⟩) m m')) w') : WR P ops Q k n ds F w := by
  subst hm hm'
  unfold decMake at hd
  split at hd
  · rename_i d t' lx cx ty pos af gd hdec
    simp only [Option.some.injEq, Prod.mk.injEq] at hd
    obtain ⟨rfl, rfl, hl, hc⟩ := hd
    obtain ⟨i, z, hu, hin, hz, rfl, rfl, rfl, hzs⟩ := eInfo_spec hi
    have hb' : (i.bytes : Int) * (m' : Int) ≤ 281474976710656 := by
      have h : ((i.bytes * m' : Nat) : Int) ≤ 281474976710656 := by omega
      rwa [Int.natCast_mul] at h
    have hr := run_make (P := P) w t' e i z hu hin hz kl kc m m' (by omega) (by omega) hb' (by omega)
    simp only [Int.toNat_natCast] at hr
    refine .val hdec (v := .slice (some ⟨w.heap.size, 0, none⟩) m m') (w' := w.alloc (.cells (madeCells z.cells (m' * i.size)) e)) ?_ (K _ _ (New.alloc w _ _))
    simp [execOp, hl, hc, hr]
  · cases hd
theorem Own.made {w w' : World} {g : Nat} {zc : Array Value} {e : TypeId} {sz m m' : Nat} (h : New w w' g (madeCells zc (m' * sz)) e) (hle : m ≤ m') (h63 : m' ≤ 9223372036854775807) :
    Own w' w.heap.size e sz (some ⟨g, 0, none⟩) m m' ((madeCells zc (m' * sz)).toList.take (m * sz)) := by
  refine ⟨?_, .inr ⟨g, m', madeCells zc (m' * sz), rfl, h.fresh, h.blk, hle, by unfold maxLen; omega, by simp [size_madeCells], rfl⟩⟩
  have : m * sz ≤ m' * sz := Nat.mul_le_mul_right _ hle
  rw [List.length_take, Array.length_toList, size_madeCells, Nat.min_eq_left this]
def decApp (ops : Array Oper) (k n : Nat) (F : PF) : Option (Option Tmp × TypeId × Value × Value) :=
  match dec ops k n F with
  | some ⟨dst, .call { callee := .builtin .append, args := a, argTypes := ats }, _, _, _, _⟩ =>
    (match a.toList, ats.toList with | [s, x], [t, t'] => (match Nat.beq t t' with | true => some (dst, t, evD F s, evD F x) | false => none) | _, _ => none)
  | _ => none
theorem decApp_spec {dst : Option Tmp} {t : TypeId} {s x : Value} (h : decApp ops k n F = some (dst, t, s, x)) :
    ∃ o, dec ops k n F = some o ∧ o.dst = dst ∧ ∀ w, (execOp (evD F) o).run P w = ((Builtin.append_ #[t, t] o.type #[s, x]).run P w).andThen fun v w' => .ok (.value v) w' := by
  unfold decApp at h
  split at h
  · rename_i d a ats ty pos af gd hdec
    split at h
    · rename_i s' x' t1 t2 ha hat
      split at h
      · rename_i hb
        have := Nat.eq_of_beq_eq_true hb
        subst this
        simp only [Option.some.injEq, Prod.mk.injEq] at h
        obtain ⟨rfl, rfl, rfl, rfl⟩ := h
        refine ⟨_, hdec, rfl, fun w => ?_⟩
        have ea : a = #[s', x'] := by rw [← Array.toArray_toList (xs := a), ha]
        have eat : ats = #[t1, t1] := by rw [← Array.toArray_toList (xs := ats), hat]
        subst ea eat
        simp [execOp, resolve, invoke, builtin]
      · cases h
    · cases h
  · cases h
/-- An append of what may be read to what is owned. -/
theorem WR.append {dst : Option Tmp} {t e : TypeId} {sz by_ : Nat} {zc : Array Value} {B : Nat} {ad xd : Option Addr} {m cap xm xcap : Nat} {cs news : List Value} (ho : Own w B e sz ad m cap cs) (hx : Rg w xd news)
    (hd : decApp ops k n F = some (dst, t, .slice ad m cap, .slice xd xm xcap)) (hi : eInfo P t = some (e, sz, by_, zc)) (hl : news.length = xm * sz) (hsz : 0 < sz) (h1 : ∀ u ∈ news, u.oneCell' = true) (hB : B ≤ w.heap.size)
    (h63 : m + xm ≤ 9223372036854775807) (hby : (m + xm) * by_ ≤ 140737488355328) (hnil : xd = none → xm = 0 ∧ xcap = 0)
    (K : ∀ ad' cap' w', Own w' B e sz ad' (m + xm) cap' (cs ++ news) → Chg (blks ad) w w' → (ad' = ad ∨ w.heap.size ≤ bk ad') → WR P ops Q (k + 1) n ds (upd F dst (.slice ad' (m + xm) cap')) w') : WR P ops Q k n ds F w := by
  obtain ⟨o, hdec, rfl, hrun⟩ := decApp_spec hd
  obtain ⟨i, z, hu, hin, hz, rfl, rfl, rfl, hzs⟩ := eInfo_spec hi
  have hmc := ho.le
  have addE : ∀ (b off j : Nat), (⟨b, off, none⟩ : Addr).add j = ⟨b, off + j, none⟩ := fun b off j => by unfold Addr.add; split <;> simp_all
  by_cases hx0 : xm = 0
  · -- nothing is appended
    subst hx0
    have hn : news = [] := List.eq_nil_of_length_eq_zero (by simpa using hl)
    subst hn
    have hr : (Builtin.append_ #[t, t] o.type #[.slice ad m cap, .slice xd 0 xcap]).run P w = .ok (.slice ad m cap) w := by
      cases ad with
      | none =>
        cases xd with
        | none => simp [Builtin.append_, run_underlying hu, sizeOf, typeInfo, hin, Builtin.lenOf, Builtin.firstCells, hmc.1]
        | some a => simp [Builtin.append_, run_underlying hu, sizeOf, typeInfo, hin, Builtin.lenOf, Builtin.firstCells, loadCells, loadCellsFrom, hmc.1]
      | some g =>
        cases xd with
        | none => simp [Builtin.append_, run_underlying hu, sizeOf, typeInfo, hin, Builtin.lenOf, Builtin.firstCells, storeCells, hmc.1]
        | some a => simp [Builtin.append_, run_underlying hu, sizeOf, typeInfo, hin, Builtin.lenOf, Builtin.firstCells, loadCells, loadCellsFrom, storeCells, hmc.1]
    exact .val hdec (v := .slice ad (m + 0) cap) (w' := w) (by rw [hrun, hr]; rfl) (K ad cap w (by simpa using ho) (Chg.refl _ _) (.inl rfl))
  · have hxm : 0 < xm := by omega
    have hne : news ≠ [] := by
      intro e; rw [e] at hl
      have := Nat.mul_pos hxm hsz
      simp at hl; omega
    obtain ⟨b, off, rfl⟩ : ∃ b off, xd = some ⟨b, off, none⟩ := by
      cases news with
      | nil => exact absurd rfl hne
      | cons u r => exact ⟨_, _, (hx 0 u rfl).1⟩
    have hnews : ∀ j v, news[j]? = some v → w.cell? ((⟨b, off, none⟩ : Addr).add j) = some v := fun j v hj => by rw [addE]; exact (hx j v hj).2
    have hlen : (cs ++ news).length = (m + xm) * i.size := by rw [List.length_append, ho.len, hl, Nat.add_mul]
    have grown : ∀ (old : Nat), Own (w.drew.alloc (.cells (cs.toArray ++ news.toArray ++ Builtin.zeroCells z.cells (grownCap w (m + xm) old e - (m + xm))) e)) B e i.size (some ⟨w.heap.size, 0, none⟩) (m + xm) (grownCap w (m + xm) old e) (cs ++ news) := by
      intro old
      have hge := grownCap_ge w (m + xm) old e
      have hcm : grownCap w (m + xm) old e ≤ maxLen := grownCap_le_maxLen w (m + xm) old e (by unfold maxLen; omega)
      refine ⟨hlen, .inr ⟨w.heap.size, _, _, rfl, hB, heap_alloc_new w.drew _, hge, hcm, ?_, ?_⟩⟩
      · have hs : cs.length + news.length = (m + xm) * i.size := by rw [← List.length_append]; exact hlen
        have : (m + xm) * i.size + (grownCap w (m + xm) old e - (m + xm)) * i.size = grownCap w (m + xm) old e * i.size := by rw [← Nat.add_mul]; congr 1; omega
        simp only [Array.size_append, List.size_toArray, size_zeroCells, hzs]
        omega
      · simp only [Array.toList_append, List.append_assoc]
        rw [← List.append_assoc, ← hlen]
        exact List.take_left
    have hgc : ∀ (old : Nat) (S : List Nat), Chg S w (w.drew.alloc (.cells (cs.toArray ++ news.toArray ++ Builtin.zeroCells z.cells (grownCap w (m + xm) old e - (m + xm))) e)) :=
      fun old S => ⟨rfl, rfl, rfl, by simp, fun k hk _ => Below.heap_alloc w.drew _ k hk⟩
    rcases ho.cases with ⟨rfl, rfl, rfl, rfl⟩ | ⟨c', had, hBb, hbl, hmc', hcm', hcs, htk⟩
    · have hr := run_append_nil (P := P) w t o.type e i z hu hin hz ⟨b, off, none⟩ xm xcap news hl hnews (by omega) (by omega) (by have hb := hby; simp only [Nat.zero_add] at hb; omega)
      have hg := grown 0
      have hc := hgc 0 (blks none)
      simp only [Nat.zero_add, List.nil_append, Array.empty_append] at hg hc hr
      refine .val hdec (v := .slice (some ⟨w.heap.size, 0, none⟩) (0 + xm) (grownCap w xm 0 e)) (by rw [hrun, hr, Nat.zero_add]; rfl) (K _ _ _ (by simpa using hg) hc (.inr (Nat.le_refl _)))
    · obtain ⟨g, rfl⟩ : ∃ g, ad = some ⟨g, 0, none⟩ := ⟨_, had⟩
      by_cases hroom : m + xm ≤ cap
      · have hfit : m * i.size + news.length ≤ c'.size := by rw [hl, hcs, ← Nat.add_mul]; exact Nat.mul_le_mul_right _ hroom
        have hr := run_append_room (P := P) w t o.type e i hu hin g m cap c' hbl ⟨b, off, none⟩ xm xcap news hl hnews h1 hroom hfit
        refine .val hdec (v := .slice (some ⟨g, 0, none⟩) (m + xm) cap) (by rw [hrun, hr]; rfl) (K (some ⟨g, 0, none⟩) cap _ ?_ ?_ (.inl rfl))
        · refine ⟨hlen, .inr ⟨g, cap, _, rfl, hBb, setRow_heap w g c' _ e _ hbl, hroom, hcm', ?_, ?_⟩⟩
          · simp only [List.size_toArray, List.length_append, List.length_take, List.length_drop, Array.length_toList]
            omega
          · rw [htk, ← hlen]
            exact List.take_left
        · exact ⟨rfl, rfl, rfl, by simp, fun k _ hk => setRow_other w g k _ (fun e => hk (by simp [blks, e]))⟩
      · have holds : ∀ j v, cs[j]? = some v → w.cell? ((⟨g, 0, none⟩ : Addr).add j) = some v := fun j v hj => by rw [addE]; exact (ho.rg j v hj).2
        have hr := run_append_grow (P := P) w t o.type e i z hu hin hz ⟨g, 0, none⟩ m cap cs ho.len holds ⟨b, off, none⟩ xm xcap news hl hnews (by omega) (by omega) (growslice_fits (by omega) hby)
        exact .val hdec (v := .slice (some ⟨w.heap.size, 0, none⟩) (m + xm) (grownCap w (m + xm) cap e)) (by rw [hrun, hr]; rfl) (K _ _ _ (grown cap) (hgc cap _) (.inr (Nat.le_refl _)))

/-! ### A slice's literal -/
def bsCells (P : Program) (t : TypeId) (len : Nat) (parts : List (Nat × Value)) : Option (TypeId × Array Value) :=
  match P.underlying t with
  | some (.slice e) => (match P.info? e with
    | some i => (match Nat.ble (len * i.size) 16777216 with
      | true => (match (match Nat.beq (len * i.size) 0 with | true => some #[] | false => (match i.zero with | some z => some z.cells | none => none)) with
        | some zero => (match Instr.fill (fun j => some (j * i.size, i.size)) ((Array.range (len * i.size)).map (zero[· % zero.size]!)) parts with | some cells => some (e, cells) | none => none)
        | none => none)
      | false => none)
    | none => none)
  | _ => none
def decBs (P : Program) (ops : Array Oper) (k n : Nat) (F : PF) : Option (Option Tmp × Nat × TypeId × Array Value) :=
  match dec ops k n F with
  | some ⟨dst, .buildSlice t len parts, _, _, _, _⟩ => (match bsCells P t len (parts.map fun (i, x) => (i, evD F x)).toList with | some (e, c) => some (dst, len, e, c) | none => none)
  | _ => none
theorem WR.bslice {dst : Option Tmp} {len : Nat} {e : TypeId} (c : Array Value) (hd : decBs P ops k n F = some (dst, len, e, c))
    (K : ∀ g w', New w w' g c e → WR P ops Q (k + 1) n ds (upd F dst (.slice (some ⟨g, 0, none⟩) len len)) w') : WR P ops Q k n ds F w := by
  unfold decBs at hd
  split at hd
  · rename_i d t l parts ty pos af gd hdec
    split at hd
    · rename_i e' c' hb
      simp only [Option.some.injEq, Prod.mk.injEq] at hd
      obtain ⟨rfl, rfl, rfl, rfl⟩ := hd
      refine .val hdec (v := .slice (some ⟨w.heap.size, 0, none⟩) l l) (w' := w.alloc (.cells c' e')) ?_ (K _ _ (New.alloc w _ _))
      unfold bsCells at hb
      split at hb
      · rename_i e1 hu
        split at hb
        · rename_i i hi
          split at hb
          · rename_i hle
            have hle' := Nat.le_of_ble_eq_true hle
            split at hb
            · rename_i zero hz
              split at hb
              · rename_i cells hfill
                simp only [Option.some.injEq, Prod.mk.injEq] at hb
                obtain ⟨rfl, rfl⟩ := hb
                have hs : (sizeOf e1).run P w = .ok i.size w := by simp [sizeOf, typeInfo, hi]
                have hn : ¬ (16777216 < l * i.size) := by omega
                have hul : (underlying t).run P w = .ok (.slice e1) w := by simp [underlying, hu]
                simp only [execOp, Instr.buildSlice, Sem.run_bind, hul, Result.andThen_ok, hs]
                simp only [Nat.reducePow, gt_iff_lt, hn, if_false]
                by_cases h0 : l * i.size = 0
                · have hz0 : zero = #[] := by
                    split at hz
                    · simpa using hz.symm
                    · rename_i hb0; simp [h0] at hb0
                  subst hz0
                  simp only [h0, if_true, Sem.run_bind, Sem.run_pure, Result.andThen_ok] at hfill ⊢
                  simp only [hfill]
                  simp [newRow]
                · obtain ⟨z, hzz, hzc⟩ : ∃ z, i.zero = some z ∧ z.cells = zero := by
                    split at hz
                    · rename_i hb0; exact absurd (Nat.eq_of_beq_eq_true hb0) h0
                    · split at hz
                      · rename_i z hzz; exact ⟨z, hzz, by simpa using hz⟩
                      · cases hz
                  have hzv : (zeroValue e1).run P w = .ok z w := by simp [zeroValue, typeInfo, hi, hzz]
                  subst hzc
                  simp only [h0, if_false, Sem.run_bind, Sem.run_pure, hzv, Result.andThen_ok]
                  simp only [hfill]
                  simp [newRow]
              · cases hb
            · cases hb
          · cases hb
        · cases hb
      · cases hb
    · cases hd
  · cases hd

/-! ### A slice cut -/
def decSlice (ops : Array Oper) (k n : Nat) (F : PF) : Option (Option Tmp × TypeId × Value × Option Value × Option Value) :=
  match dec ops k n F with | some ⟨dst, .slice t x lo hi none, _, _, _, _⟩ => some (dst, t, evD F x, lo.map (evD F), hi.map (evD F)) | _ => none
theorem decSlice_spec {dst : Option Tmp} {t : TypeId} {x : Value} {lo hi : Option Value} (h : decSlice ops k n F = some (dst, t, x, lo, hi)) :
    ∃ o, dec ops k n F = some o ∧ o.dst = dst ∧ execOp (evD F) o = (do pure (.value (← Instr.sliceAt t x lo hi none)) : Sem Next) := by
  unfold decSlice at h
  split at h
  · rename_i d t' x' l' h' ty pos af gd hdec
    simp only [Option.some.injEq, Prod.mk.injEq] at h
    obtain ⟨rfl, rfl, rfl, rfl, rfl⟩ := h
    exact ⟨_, hdec, rfl, rfl⟩
  · cases h
theorem elem_of {t e : TypeId} (h : P.underlying t = some (.slice e)) : P.underlying t = some (.slice (P.elem t)) := by
  have : P.elem t = e := by simp [Program.elem, h]
  rw [this]; exact h
/-! ### An array behind a pointer -/
/-! ### Wholes, and single cells of known blocks -/
def sizeT (P : Program) (t : TypeId) : Option Nat := (P.info? t).map (·.size)
/-! ### Division by what is not nought -/
def decBin (ops : Array Oper) (k n : Nat) (F : PF) : Option (Option Tmp × BinOp × Value × Value) :=
  match dec ops k n F with | some ⟨dst, .binOp b _ x y _, _, _, _, _⟩ => some (dst, b, evD F x, evD F y) | _ => none
theorem Own.ofBlk {w : World} {g : Nat} {c : Array Value} {e B n cap sz : Nat} (h : Blk w g c e) (hB : B ≤ g) (hn : n ≤ cap) (hm : cap ≤ 9223372036854775807) (hc : c.size = cap * sz) (cs : List Value) (hcs : c.toList.take (n * sz) = cs) : Own w B e sz (some ⟨g, 0, none⟩) n cap cs := by
  subst hcs
  refine ⟨?_, .inr ⟨g, cap, c, rfl, hB, h, hn, by unfold maxLen; omega, hc, rfl⟩⟩
  have : n * sz ≤ cap * sz := Nat.mul_le_mul_right _ hn
  rw [List.length_take, Array.length_toList, hc, Nat.min_eq_left this]
end
end Go.V
