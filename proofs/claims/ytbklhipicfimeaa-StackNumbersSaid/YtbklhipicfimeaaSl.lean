/- Slices that are made, appended to, cut, written; arrays as wholes. Nothing here is about one program. -/
import Derived.Test.YtbklhipicfimeaaMem
namespace Go.V
open Go.RowKit

/-- The block of an owned slice, as a list. -/
def blks (ad : Option Addr) : List Nat := match ad with | some a => [a.block] | none => []
theorem not_blks {w : World} {B : Nat} {e : TypeId} {sz : Nat} {ad : Option Addr} {n cap : Nat} {cs : List Value} (h : Own w B e sz ad n cap cs) {g : Nat} (hg : g < B) : g ∉ blks ad := by
  intro hm
  rcases h.ge with rfl | ⟨h1, _⟩
  · simp [blks] at hm
  · cases ad with
    | none => simp [blks] at hm
    | some a => simp [blks] at hm; subst hm; simp [bk] at h1; omega
theorem blks_ge {w : World} {B : Nat} {e : TypeId} {sz : Nat} {ad : Option Addr} {n cap : Nat} {cs : List Value} (h : Own w B e sz ad n cap cs) {m : Nat} (hm : m ≤ B) : ∀ t ∈ blks ad, m ≤ t := by
  intro t ht
  rcases Nat.lt_or_ge t B with h1 | h1
  · exact absurd ht (not_blks h h1)
  · omega
theorem Chg.own {S : List Nat} {w0 w w' : World} (h : Chg S w0 w) {T : List Nat} (h' : Chg T w w') (hT : ∀ t ∈ T, w0.heap.size ≤ t) : Chg S w0 w' := h.step h' fun t ht => .inr (hT t ht)
theorem blks_bk {ad : Option Addr} {g : Nat} (h : ad = none ∨ g ≠ bk ad) : g ∉ blks ad := by
  intro hm
  cases ad with
  | none => simp [blks] at hm
  | some a => simp [blks] at hm; subst hm; simp [bk] at h

theorem Own.off1 {w : World} {B : Nat} {e : TypeId} {sz : Nat} {ad : Option Addr} {n cap : Nat} {cs : List Value} (h : Own w B e sz ad n cap cs) {g : Nat} (hd : g < B ∨ ad = none ∨ bk ad < g) : bk ad ∉ [g] ∨ ad = none := by
  rcases h.ge with h | ⟨h1, _⟩
  · exact .inr h
  · rcases hd with hd | hd | hd
    · exact .inl (by simp; omega)
    · exact .inr hd
    · exact .inl (by simp; omega)
theorem Own.nil0 {w : World} {B : Nat} {e : TypeId} {sz : Nat} {ad : Option Addr} {n cap : Nat} {cs : List Value} (h : Own w B e sz ad n cap cs) (had : ad = none) : n = 0 ∧ cap = 0 := by
  rcases h.cases with ⟨_, h1, h2, _⟩ | ⟨c, h1, _⟩
  · exact ⟨h1, h2⟩
  · rw [had] at h1; cases h1
/-- Two slices that lie apart. -/
def Apart (a b : Option Addr) : Prop := a = none ∨ b = none ∨ bk a ≠ bk b
theorem Apart.symm {a b : Option Addr} (h : Apart a b) : Apart b a := by rcases h with h | h | h; exact .inr (.inl h); exact .inl h; exact .inr (.inr (Ne.symm h))
theorem Apart.new {w : World} {B B' m : Nat} {e : TypeId} {sz : Nat} {a b : Option Addr} {n cap : Nat} {cs : List Value} (h1 : a = none ∨ (B ≤ bk a ∧ bk a < m)) (h2 : Own w B' e sz b n cap cs) (hm : m ≤ B') : Apart a b := by
  rcases h1 with h | ⟨_, h⟩
  · exact .inl h
  · rcases h2.ge with h3 | ⟨h3, _⟩
    · exact .inr (.inl h3)
    · exact .inr (.inr (by omega))
theorem Apart.grow {w : World} {B : Nat} {e : TypeId} {sz : Nat} {a a' b : Option Addr} {n cap : Nat} {cs : List Value} (h : Apart a b) (h2 : Own w B e sz b n cap cs) (hw : a' = a ∨ w.heap.size ≤ bk a') : Apart a' b := by
  rcases hw with rfl | hw
  · exact h
  · rcases h2.ge with h3 | ⟨_, h3⟩
    · exact .inr (.inl h3)
    · exact .inr (.inr (by omega))
theorem Apart.off {a b : Option Addr} (h : Apart a b) : bk a ∉ blks b ∨ a = none := by
  rcases h with h | h | h
  · exact .inr h
  · subst h; exact .inl (by simp [blks])
  · left
    cases b with
    | none => simp [blks]
    | some b => simpa [blks, bk] using h

section
variable {P : Program} {ops : Array Oper} {Q : Exit → Act → World → Prop} {k n : Nat} {ds : List Deferred} {F : PF} {w : World}

/-- An element type's row: its number, its cells, its bytes, its zero's cells. -/
def eInfo (P : Program) (t : TypeId) : Option (TypeId × Nat × Nat × Array Value) :=
  match P.underlying t with
  | some (.slice e) => (match P.info? e with | some i => (match i.zero with | some z => (match Nat.beq z.cells.size i.size with | true => some (e, i.size, i.bytes, z.cells) | false => none) | none => none) | none => none)
  | _ => none
theorem eInfo_spec {t e : TypeId} {sz by_ : Nat} {zc : Array Value} (h : eInfo P t = some (e, sz, by_, zc)) :
    ∃ i z, P.underlying t = some (.slice e) ∧ P.info? e = some i ∧ i.zero = some z ∧ i.size = sz ∧ i.bytes = by_ ∧ z.cells = zc ∧ zc.size = sz := by
  unfold eInfo at h
  split at h
  · rename_i e' hu
    split at h
    · rename_i i hi
      split at h
      · rename_i z hz
        split at h
        · rename_i hb
          simp only [Option.some.injEq, Prod.mk.injEq] at h
          obtain ⟨rfl, rfl, rfl, rfl⟩ := h
          exact ⟨i, z, hu, hi, hz, rfl, rfl, rfl, Nat.eq_of_beq_eq_true hb⟩
        · cases h
      · cases h
    · cases h
  · cases h

def decMake (ops : Array Oper) (k n : Nat) (F : PF) : Option (Option Tmp × TypeId × Value × Value) :=
  match dec ops k n F with | some ⟨dst, .makeSlice t l c, _, _, _, _⟩ => some (dst, t, evD F l, evD F c) | _ => none
theorem WR.make {dst : Option Tmp} {t e : TypeId} {kl kc : IntKind} {l c : Int} {sz by_ : Nat} {zc : Array Value} (hd : decMake ops k n F = some (dst, t, .int kl l, .int kc c)) (hi : eInfo P t = some (e, sz, by_, zc)) (m m' : Nat) (hm : l = (m : Int)) (hm' : c = (m' : Int)) (hle : m ≤ m')
    (hbytes : by_ * m' ≤ 281474976710656) (h63 : m' ≤ 9223372036854775807)
    (K : ∀ g w', New w w' g (madeCells zc (m' * sz)) e → WR P ops Q (k + 1) n ds (upd F dst (.slice (some ⟨g, 0, none⟩) m m')) w') : WR P ops Q k n ds F w := by
  subst hm hm'
  unfold decMake at hd
  split at hd
  · rename_i d t' lx cx ty pos af gd hdec
    simp only [Option.some.injEq, Prod.mk.injEq] at hd
    obtain ⟨rfl, rfl, hl, hc⟩ := hd
    obtain ⟨i, z, hu, hin, hz, rfl, rfl, rfl, hzs⟩ := eInfo_spec hi
    have hb' : (i.bytes : Int) * (m' : Int) ≤ 281474976710656 := by
      have h : ((i.bytes * m' : Nat) : Int) ≤ 281474976710656 := by omega
      rwa [Int.natCast_mul] at h
    have hr := run_make (P := P) w t' e i z hu hin hz kl kc m m' (by omega) (by omega) hb' (by omega)
    simp only [Int.toNat_natCast] at hr
    refine .val hdec (v := .slice (some ⟨w.heap.size, 0, none⟩) m m') (w' := w.alloc (.cells (madeCells z.cells (m' * i.size)) e)) ?_ (K _ _ (New.alloc w _ _))
    simp [execOp, hl, hc, hr]
  · cases hd
theorem Own.made {w w' : World} {g : Nat} {zc : Array Value} {e : TypeId} {sz m m' : Nat} (h : New w w' g (madeCells zc (m' * sz)) e) (hle : m ≤ m') (h63 : m' ≤ 9223372036854775807) :
    Own w' w.heap.size e sz (some ⟨g, 0, none⟩) m m' ((madeCells zc (m' * sz)).toList.take (m * sz)) := by
  refine ⟨?_, .inr ⟨g, m', madeCells zc (m' * sz), rfl, h.fresh, h.blk, hle, by unfold maxLen; omega, by simp [size_madeCells], rfl⟩⟩
  have : m * sz ≤ m' * sz := Nat.mul_le_mul_right _ hle
  rw [List.length_take, Array.length_toList, size_madeCells, Nat.min_eq_left this]
theorem made1 (z : Value) (m m' : Nat) (h : m ≤ m') : (madeCells #[z] (m' * 1)).toList.take (m * 1) = List.replicate m z := by
  rw [Nat.mul_one, Nat.mul_one, toList_madeCells_one, List.take_replicate, Nat.min_eq_left h]

def decApp (ops : Array Oper) (k n : Nat) (F : PF) : Option (Option Tmp × TypeId × Value × Value) :=
  match dec ops k n F with
  | some ⟨dst, .call { callee := .builtin .append, args := a, argTypes := ats }, _, _, _, _⟩ =>
    (match a.toList, ats.toList with | [s, x], [t, t'] => (match Nat.beq t t' with | true => some (dst, t, evD F s, evD F x) | false => none) | _, _ => none)
  | _ => none
theorem decApp_spec {dst : Option Tmp} {t : TypeId} {s x : Value} (h : decApp ops k n F = some (dst, t, s, x)) :
    ∃ o, dec ops k n F = some o ∧ o.dst = dst ∧ ∀ w, (execOp (evD F) o).run P w = ((Builtin.append_ #[t, t] o.type #[s, x]).run P w).andThen fun v w' => .ok (.value v) w' := by
  unfold decApp at h
  split at h
  · rename_i d a ats ty pos af gd hdec
    split at h
    · rename_i s' x' t1 t2 ha hat
      split at h
      · rename_i hb
        have := Nat.eq_of_beq_eq_true hb
        subst this
        simp only [Option.some.injEq, Prod.mk.injEq] at h
        obtain ⟨rfl, rfl, rfl, rfl⟩ := h
        refine ⟨_, hdec, rfl, fun w => ?_⟩
        have ea : a = #[s', x'] := by rw [← Array.toArray_toList (xs := a), ha]
        have eat : ats = #[t1, t1] := by rw [← Array.toArray_toList (xs := ats), hat]
        subst ea eat
        simp [execOp, resolve, invoke, builtin]
      · cases h
    · cases h
  · cases h
/-- An append of what may be read to what is owned. -/
theorem WR.append {dst : Option Tmp} {t e : TypeId} {sz by_ : Nat} {zc : Array Value} {B : Nat} {ad xd : Option Addr} {m cap xm xcap : Nat} {cs news : List Value} (ho : Own w B e sz ad m cap cs) (hx : Rg w xd news)
    (hd : decApp ops k n F = some (dst, t, .slice ad m cap, .slice xd xm xcap)) (hi : eInfo P t = some (e, sz, by_, zc)) (hl : news.length = xm * sz) (hsz : 0 < sz) (h1 : ∀ u ∈ news, u.oneCell' = true) (hB : B ≤ w.heap.size)
    (h63 : m + xm ≤ 9223372036854775807) (hby : (m + xm) * by_ ≤ 140737488355328) (hnil : xd = none → xm = 0 ∧ xcap = 0)
    (K : ∀ ad' cap' w', Own w' B e sz ad' (m + xm) cap' (cs ++ news) → Chg (blks ad) w w' → (ad' = ad ∨ w.heap.size ≤ bk ad') → WR P ops Q (k + 1) n ds (upd F dst (.slice ad' (m + xm) cap')) w') : WR P ops Q k n ds F w := by
  obtain ⟨o, hdec, rfl, hrun⟩ := decApp_spec hd
  obtain ⟨i, z, hu, hin, hz, rfl, rfl, rfl, hzs⟩ := eInfo_spec hi
  have hmc := ho.le
  have addE : ∀ (b off j : Nat), (⟨b, off, none⟩ : Addr).add j = ⟨b, off + j, none⟩ := fun b off j => by unfold Addr.add; split <;> simp_all
  by_cases hx0 : xm = 0
  · -- nothing is appended
    subst hx0
    have hn : news = [] := List.eq_nil_of_length_eq_zero (by simpa using hl)
    subst hn
    have hr : (Builtin.append_ #[t, t] o.type #[.slice ad m cap, .slice xd 0 xcap]).run P w = .ok (.slice ad m cap) w := by
      cases ad with
      | none =>
        cases xd with
        | none => simp [Builtin.append_, run_underlying hu, sizeOf, typeInfo, hin, Builtin.lenOf, Builtin.firstCells, hmc.1]
        | some a => simp [Builtin.append_, run_underlying hu, sizeOf, typeInfo, hin, Builtin.lenOf, Builtin.firstCells, loadCells, loadCellsFrom, hmc.1]
      | some g =>
        cases xd with
        | none => simp [Builtin.append_, run_underlying hu, sizeOf, typeInfo, hin, Builtin.lenOf, Builtin.firstCells, storeCells, hmc.1]
        | some a => simp [Builtin.append_, run_underlying hu, sizeOf, typeInfo, hin, Builtin.lenOf, Builtin.firstCells, loadCells, loadCellsFrom, storeCells, hmc.1]
    exact .val hdec (v := .slice ad (m + 0) cap) (w' := w) (by rw [hrun, hr]; rfl) (K ad cap w (by simpa using ho) (Chg.refl _ _) (.inl rfl))
  · have hxm : 0 < xm := by omega
    have hne : news ≠ [] := by
      intro e; rw [e] at hl
      have := Nat.mul_pos hxm hsz
      simp at hl; omega
    obtain ⟨b, off, rfl⟩ : ∃ b off, xd = some ⟨b, off, none⟩ := by
      cases news with
      | nil => exact absurd rfl hne
      | cons u r => exact ⟨_, _, (hx 0 u rfl).1⟩
    have hnews : ∀ j v, news[j]? = some v → w.cell? ((⟨b, off, none⟩ : Addr).add j) = some v := fun j v hj => by rw [addE]; exact (hx j v hj).2
    have hlen : (cs ++ news).length = (m + xm) * i.size := by rw [List.length_append, ho.len, hl, Nat.add_mul]
    have grown : ∀ (old : Nat), Own (w.drew.alloc (.cells (cs.toArray ++ news.toArray ++ Builtin.zeroCells z.cells (grownCap w (m + xm) old e - (m + xm))) e)) B e i.size (some ⟨w.heap.size, 0, none⟩) (m + xm) (grownCap w (m + xm) old e) (cs ++ news) := by
      intro old
      have hge := grownCap_ge w (m + xm) old e
      have hcm : grownCap w (m + xm) old e ≤ maxLen := grownCap_le_maxLen w (m + xm) old e (by unfold maxLen; omega)
      refine ⟨hlen, .inr ⟨w.heap.size, _, _, rfl, hB, heap_alloc_new w.drew _, hge, hcm, ?_, ?_⟩⟩
      · have hs : cs.length + news.length = (m + xm) * i.size := by rw [← List.length_append]; exact hlen
        have : (m + xm) * i.size + (grownCap w (m + xm) old e - (m + xm)) * i.size = grownCap w (m + xm) old e * i.size := by rw [← Nat.add_mul]; congr 1; omega
        simp only [Array.size_append, List.size_toArray, size_zeroCells, hzs]
        omega
      · simp only [Array.toList_append, List.append_assoc]
        rw [← List.append_assoc, ← hlen]
        exact List.take_left
    have hgc : ∀ (old : Nat) (S : List Nat), Chg S w (w.drew.alloc (.cells (cs.toArray ++ news.toArray ++ Builtin.zeroCells z.cells (grownCap w (m + xm) old e - (m + xm))) e)) :=
      fun old S => ⟨rfl, rfl, rfl, by simp, fun k hk _ => Below.heap_alloc w.drew _ k hk⟩
    rcases ho.cases with ⟨rfl, rfl, rfl, rfl⟩ | ⟨c', had, hBb, hbl, hmc', hcm', hcs, htk⟩
    · have hr := run_append_nil (P := P) w t o.type e i z hu hin hz ⟨b, off, none⟩ xm xcap news hl hnews (by omega) (by omega) (by have hb := hby; simp only [Nat.zero_add] at hb; omega)
      have hg := grown 0
      have hc := hgc 0 (blks none)
      simp only [Nat.zero_add, List.nil_append, Array.empty_append] at hg hc hr
      refine .val hdec (v := .slice (some ⟨w.heap.size, 0, none⟩) (0 + xm) (grownCap w xm 0 e)) (by rw [hrun, hr, Nat.zero_add]; rfl) (K _ _ _ (by simpa using hg) hc (.inr (Nat.le_refl _)))
    · obtain ⟨g, rfl⟩ : ∃ g, ad = some ⟨g, 0, none⟩ := ⟨_, had⟩
      by_cases hroom : m + xm ≤ cap
      · have hfit : m * i.size + news.length ≤ c'.size := by rw [hl, hcs, ← Nat.add_mul]; exact Nat.mul_le_mul_right _ hroom
        have hr := run_append_room (P := P) w t o.type e i hu hin g m cap c' hbl ⟨b, off, none⟩ xm xcap news hl hnews h1 hroom hfit
        refine .val hdec (v := .slice (some ⟨g, 0, none⟩) (m + xm) cap) (by rw [hrun, hr]; rfl) (K (some ⟨g, 0, none⟩) cap _ ?_ ?_ (.inl rfl))
        · refine ⟨hlen, .inr ⟨g, cap, _, rfl, hBb, setRow_heap w g c' _ e _ hbl, hroom, hcm', ?_, ?_⟩⟩
          · simp only [List.size_toArray, List.length_append, List.length_take, List.length_drop, Array.length_toList]
            omega
          · rw [htk, ← hlen]
            exact List.take_left
        · exact ⟨rfl, rfl, rfl, by simp, fun k _ hk => setRow_other w g k _ (fun e => hk (by simp [blks, e]))⟩
      · have holds : ∀ j v, cs[j]? = some v → w.cell? ((⟨g, 0, none⟩ : Addr).add j) = some v := fun j v hj => by rw [addE]; exact (ho.rg j v hj).2
        have hr := run_append_grow (P := P) w t o.type e i z hu hin hz ⟨g, 0, none⟩ m cap cs ho.len holds ⟨b, off, none⟩ xm xcap news hl hnews (by omega) (by omega) (growslice_fits (by omega) hby)
        exact .val hdec (v := .slice (some ⟨w.heap.size, 0, none⟩) (m + xm) (grownCap w (m + xm) cap e)) (by rw [hrun, hr]; rfl) (K _ _ _ (grown cap) (hgc cap _) (.inr (Nat.le_refl _)))

/-! ### A slice's literal -/
def bsCells (P : Program) (t : TypeId) (len : Nat) (parts : List (Nat × Value)) : Option (TypeId × Array Value) :=
  match P.underlying t with
  | some (.slice e) => (match P.info? e with
    | some i => (match Nat.ble (len * i.size) 16777216 with
      | true => (match (match Nat.beq (len * i.size) 0 with | true => some #[] | false => (match i.zero with | some z => some z.cells | none => none)) with
        | some zero => (match Instr.fill (fun j => some (j * i.size, i.size)) ((Array.range (len * i.size)).map (zero[· % zero.size]!)) parts with | some cells => some (e, cells) | none => none)
        | none => none)
      | false => none)
    | none => none)
  | _ => none
def decBs (P : Program) (ops : Array Oper) (k n : Nat) (F : PF) : Option (Option Tmp × Nat × TypeId × Array Value) :=
  match dec ops k n F with
  | some ⟨dst, .buildSlice t len parts, _, _, _, _⟩ => (match bsCells P t len (parts.map fun (i, x) => (i, evD F x)).toList with | some (e, c) => some (dst, len, e, c) | none => none)
  | _ => none
theorem WR.bslice {dst : Option Tmp} {len : Nat} {e : TypeId} (c : Array Value) (hd : decBs P ops k n F = some (dst, len, e, c))
    (K : ∀ g w', New w w' g c e → WR P ops Q (k + 1) n ds (upd F dst (.slice (some ⟨g, 0, none⟩) len len)) w') : WR P ops Q k n ds F w := by
  unfold decBs at hd
  split at hd
  · rename_i d t l parts ty pos af gd hdec
    split at hd
    · rename_i e' c' hb
      simp only [Option.some.injEq, Prod.mk.injEq] at hd
      obtain ⟨rfl, rfl, rfl, rfl⟩ := hd
      refine .val hdec (v := .slice (some ⟨w.heap.size, 0, none⟩) l l) (w' := w.alloc (.cells c' e')) ?_ (K _ _ (New.alloc w _ _))
      unfold bsCells at hb
      split at hb
      · rename_i e1 hu
        split at hb
        · rename_i i hi
          split at hb
          · rename_i hle
            have hle' := Nat.le_of_ble_eq_true hle
            split at hb
            · rename_i zero hz
              split at hb
              · rename_i cells hfill
                simp only [Option.some.injEq, Prod.mk.injEq] at hb
                obtain ⟨rfl, rfl⟩ := hb
                have hs : (sizeOf e1).run P w = .ok i.size w := by simp [sizeOf, typeInfo, hi]
                have hn : ¬ (16777216 < l * i.size) := by omega
                have hul : (underlying t).run P w = .ok (.slice e1) w := by simp [underlying, hu]
                simp only [execOp, Instr.buildSlice, Sem.run_bind, hul, Result.andThen_ok, hs]
                simp only [Nat.reducePow, gt_iff_lt, hn, if_false]
                by_cases h0 : l * i.size = 0
                · have hz0 : zero = #[] := by
                    split at hz
                    · simpa using hz.symm
                    · rename_i hb0; simp [h0] at hb0
                  subst hz0
                  simp only [h0, if_true, Sem.run_bind, Sem.run_pure, Result.andThen_ok] at hfill ⊢
                  simp only [hfill]
                  simp [newRow]
                · obtain ⟨z, hzz, hzc⟩ : ∃ z, i.zero = some z ∧ z.cells = zero := by
                    split at hz
                    · rename_i hb0; exact absurd (Nat.eq_of_beq_eq_true hb0) h0
                    · split at hz
                      · rename_i z hzz; exact ⟨z, hzz, by simpa using hz⟩
                      · cases hz
                  have hzv : (zeroValue e1).run P w = .ok z w := by simp [zeroValue, typeInfo, hi, hzz]
                  subst hzc
                  simp only [h0, if_false, Sem.run_bind, Sem.run_pure, hzv, Result.andThen_ok]
                  simp only [hfill]
                  simp [newRow]
              · cases hb
            · cases hb
          · cases hb
        · cases hb
      · cases hb
    · cases hd
  · cases hd

/-! ### A slice cut -/
def decSlice (ops : Array Oper) (k n : Nat) (F : PF) : Option (Option Tmp × TypeId × Value × Option Value × Option Value) :=
  match dec ops k n F with | some ⟨dst, .slice t x lo hi none, _, _, _, _⟩ => some (dst, t, evD F x, lo.map (evD F), hi.map (evD F)) | _ => none
theorem decSlice_spec {dst : Option Tmp} {t : TypeId} {x : Value} {lo hi : Option Value} (h : decSlice ops k n F = some (dst, t, x, lo, hi)) :
    ∃ o, dec ops k n F = some o ∧ o.dst = dst ∧ execOp (evD F) o = (do pure (.value (← Instr.sliceAt t x lo hi none)) : Sem Next) := by
  unfold decSlice at h
  split at h
  · rename_i d t' x' l' h' ty pos af gd hdec
    simp only [Option.some.injEq, Prod.mk.injEq] at h
    obtain ⟨rfl, rfl, rfl, rfl, rfl⟩ := h
    exact ⟨_, hdec, rfl, rfl⟩
  · cases h
theorem elem_of {t e : TypeId} (h : P.underlying t = some (.slice e)) : P.underlying t = some (.slice (P.elem t)) := by
  have : P.elem t = e := by simp [Program.elem, h]
  rw [this]; exact h
/-- s[:h] -/
theorem WR.sliceH {dst : Option Tmp} {t e : TypeId} {ad : Option Addr} {m cap : Nat} {kk : IntKind} {h : Int} {sz by_ : Nat} {zc : Array Value} (hd : decSlice ops k n F = some (dst, t, .slice ad m cap, none, some (.int kk h))) (hi : eInfo P t = some (e, sz, by_, zc)) (j : Nat) (hj : h = (j : Int)) (hle : j ≤ cap)
    (K : WR P ops Q (k + 1) n ds (upd F dst (.slice ad j cap)) w) : WR P ops Q k n ds F w := by
  subst hj
  obtain ⟨o, hdec, rfl, he⟩ := decSlice_spec hd
  obtain ⟨i, z, hu, hin, _⟩ := eInfo_spec hi
  have hel : P.elem t = e := by simp [Program.elem, hu]
  refine .val hdec (v := .slice ad j cap) (w' := w) ?_ K
  have hs : (sizeOf e).run P w = .ok i.size w := by simp [sizeOf, typeInfo, hin]
  rw [he, Sem.run_bind, run_sliceAt_slice w t _ _ _ _ (elem_of hu), run_slice_h w t ad m cap (elem_of hu) kk j (by omega) (by omega), hel, hs]
  simp only [Result.andThen_ok, sliced, Int.toNat_natCast, Nat.zero_mul, Nat.sub_zero]
  split <;> (cases ad <;> simp [Addr.add])
/-- s[:h] in a drawn region that only reads. -/
theorem WQ.sliceH {C : World → Prop} {Qf : Act → Prop} {dst : Option Tmp} {t e : TypeId} {ad : Option Addr} {m cap : Nat} {kk : IntKind} {h : Int} {sz by_ : Nat} {zc : Array Value} (hd : decSlice ops k n F = some (dst, t, .slice ad m cap, none, some (.int kk h))) (hi : eInfo P t = some (e, sz, by_, zc)) (j : Nat) (hj : h = (j : Int)) (hle : j ≤ cap)
    (K : WQ P ops C Qf (k + 1) n ds (upd F dst (.slice ad j cap))) : WQ P ops C Qf k n ds F := by
  subst hj
  obtain ⟨o, hdec, rfl, he⟩ := decSlice_spec hd
  obtain ⟨i, z, hu, hin, _⟩ := eInfo_spec hi
  have hel : P.elem t = e := by simp [Program.elem, hu]
  refine .step hdec (fun w _ => ?_) K
  have hs : (sizeOf e).run P w = .ok i.size w := by simp [sizeOf, typeInfo, hin]
  have hr : (execOp (evD F) o).run P w = .ok (.value (.slice ad j cap)) w := by
    rw [he, Sem.run_bind, run_sliceAt_slice w t _ _ _ _ (elem_of hu), run_slice_h w t ad m cap (elem_of hu) kk j (by omega) (by omega), hel, hs]
    simp only [Result.andThen_ok, sliced, Int.toNat_natCast, Nat.zero_mul, Nat.sub_zero]
    split <;> (cases ad <;> simp [Addr.add])
  rw [hr]; exact ⟨rfl, rfl⟩
/-- s[l:h] -/
theorem WR.sliceLH {dst : Option Tmp} {t e : TypeId} {ad : Option Addr} {m cap : Nat} {kl kk : IntKind} {l h : Int} {sz by_ : Nat} {zc : Array Value} (hd : decSlice ops k n F = some (dst, t, .slice ad m cap, some (.int kl l), some (.int kk h))) (hi : eInfo P t = some (e, sz, by_, zc)) (i j : Nat) (hl : l = (i : Int)) (hj : h = (j : Int)) (hij : i ≤ j) (hle : j ≤ cap)
    (K : ∀ ad', (ad' = if cap = i then ad else ad.map (·.add (i * sz))) → WR P ops Q (k + 1) n ds (upd F dst (.slice ad' (j - i) (cap - i))) w) : WR P ops Q k n ds F w := by
  subst hj hl
  obtain ⟨o, hdec, rfl, he⟩ := decSlice_spec hd
  obtain ⟨inf, z, hu, hin, _, hsz, _⟩ := eInfo_spec hi
  have hel : P.elem t = e := by simp [Program.elem, hu]
  refine .val hdec (v := .slice (if cap = i then ad else ad.map (·.add (i * sz))) (j - i) (cap - i)) (w' := w) ?_ (K _ rfl)
  have hs : (sizeOf e).run P w = .ok sz w := by simp [sizeOf, typeInfo, hin, hsz]
  rw [he, Sem.run_bind, run_sliceAt_slice w t _ _ _ _ (elem_of hu), run_slice_lh w t ad m cap (elem_of hu) kl kk i j (by omega) (by omega) (by omega), hel, hs]
  simp only [Result.andThen_ok, sliced, Int.toNat_natCast]
  rfl
/-- s[l:] -/
theorem WR.sliceL {dst : Option Tmp} {t e : TypeId} {ad : Option Addr} {m cap : Nat} {kl : IntKind} {l : Int} {sz by_ : Nat} {zc : Array Value} (hd : decSlice ops k n F = some (dst, t, .slice ad m cap, some (.int kl l), none)) (hi : eInfo P t = some (e, sz, by_, zc)) (i : Nat) (hl : l = (i : Int)) (hle : i ≤ m)
    (K : ∀ ad', (ad' = if cap = i then ad else ad.map (·.add (i * sz))) → WR P ops Q (k + 1) n ds (upd F dst (.slice ad' (m - i) (cap - i))) w) : WR P ops Q k n ds F w := by
  subst hl
  obtain ⟨o, hdec, rfl, he⟩ := decSlice_spec hd
  obtain ⟨inf, z, hu, hin, _, hsz, _⟩ := eInfo_spec hi
  have hel : P.elem t = e := by simp [Program.elem, hu]
  refine .val hdec (v := .slice (if cap = i then ad else ad.map (·.add (i * sz))) (m - i) (cap - i)) (w' := w) ?_ (K _ rfl)
  have hs : (sizeOf e).run P w = .ok sz w := by simp [sizeOf, typeInfo, hin, hsz]
  rw [he, Sem.run_bind, run_sliceAt_slice w t _ _ _ _ (elem_of hu), run_slice_l w t ad m cap (elem_of hu) kl i (by omega) (by omega), hel, hs]
  simp only [Result.andThen_ok, sliced, Int.toNat_natCast]
  rfl
theorem Rg.cutL {w : World} {ad ad' : Option Addr} {cs : List Value} {i cap sz : Nat} (h : Rg w ad cs) (ha : ad' = if cap = i then ad else ad.map (·.add (i * sz))) (hc : cs.length ≤ cap * sz) : Rg w ad' (cs.drop (i * sz)) := by
  by_cases hci : cap = i
  · subst hci
    rw [List.drop_eq_nil_of_le hc]; exact Rg.nil _ _
  · rw [if_neg hci] at ha
    have := h.sub (i * sz) (cs.length - i * sz) ad' (fun had => by
      obtain ⟨b, o, hbo⟩ : ∃ b o, ad = some ⟨b, o, none⟩ := ⟨_, _, had⟩
      subst hbo
      rw [ha]
      have hadd : (⟨b, o, none⟩ : Addr).add (i * sz) = ⟨b, o + i * sz, none⟩ := by
        unfold Addr.add
        split
        · rename_i h0; rw [h0]; rfl
        · rfl
      simp only [Option.map_some, bk, of, hadd])
    rwa [List.take_of_length_le (by simp)] at this

/-! ### An array behind a pointer -/
/-- p[l:] of an array. -/
theorem WR.sliceA {dst : Option Tmp} {t e : TypeId} {g o len : Nat} {kl : IntKind} {l : Int} {sz : Nat} (hd : decSlice ops k n F = some (dst, t, .pointer (some ⟨g, o, none⟩), some (.int kl l), none)) (hu : P.underlying t = some (.array len e)) (hs : (P.info? e).map (·.size) = some sz) (i : Nat) (hl : l = (i : Int)) (hle : i < len) (o' : Nat) (ho' : o' = o + i * sz)
    (K : WR P ops Q (k + 1) n ds (upd F dst (.slice (some ⟨g, o', none⟩) (len - i) (len - i))) w) : WR P ops Q k n ds F w := by
  subst hl ho'
  obtain ⟨op, hdec, rfl, he⟩ := decSlice_spec hd
  have hel : P.elem t = e := by simp [Program.elem, hu]
  have hal : P.arrayLen t = len := by simp [Program.arrayLen, hu]
  refine .val hdec (v := .slice (some ⟨g, o + i * sz, none⟩) (len - i) (len - i)) (w' := w) ?_ K
  have hs' : (sizeOf e).run P w = .ok sz w := by
    cases hin : P.info? e with
    | none => rw [hin] at hs; cases hs
    | some inf => rw [hin] at hs; simp at hs; simp [sizeOf, typeInfo, hin, hs]
  rw [he, Sem.run_bind, run_sliceAt_array_l w t ⟨g, o, none⟩ (by rw [hal, hel]; exact hu) kl i (by omega) (by rw [hal]; omega), hel, hal, hs']
  have hne : ¬ len = i := by omega
  have hadd : (⟨g, o, none⟩ : Addr).add (i * sz) = ⟨g, o + i * sz, none⟩ := by unfold Addr.add; split <;> simp_all
  simp only [Result.andThen_ok, slicedAt, Int.toNat_natCast, hne, if_false, hadd]
  rfl
/-- the place of an element of an array behind a pointer -/
theorem WR.indexA {dst : Option Tmp} {t e : TypeId} {b o len : Nat} {kk : IntKind} {i : Int} {sz : Nat} (hd : decIndex ops k n F = some (dst, t, .pointer (some ⟨b, o, none⟩), .int kk i)) (hu : P.underlying t = some (.array len e)) (hs : (P.info? e).map (·.size) = some sz) (j : Nat) (hj : i = (j : Int)) (hi : j < len) (o' : Nat) (ho' : o' = o + j * sz)
    (K : WR P ops Q (k + 1) n ds (upd F dst (.pointer (some ⟨b, o', none⟩))) w) : WR P ops Q k n ds F w := by
  subst hj ho'
  unfold decIndex at hd
  split at hd
  · rename_i d t' x ix ty pos af gd hdec
    simp only [Option.some.injEq, Prod.mk.injEq] at hd
    obtain ⟨rfl, rfl, hx, hix⟩ := hd
    refine .val hdec (v := .pointer (some ⟨b, o + j * sz, none⟩)) (w' := w) ?_ K
    have hs' : (sizeOf e).run P w = .ok sz w := by
      cases hin : P.info? e with
      | none => rw [hin] at hs; cases hs
      | some inf => rw [hin] at hs; simp at hs; simp [sizeOf, typeInfo, hin, hs]
    have hul : (underlying t').run P w = .ok (.array len e) w := by simp [underlying, hu]
    have hadd : (⟨b, o, none⟩ : Addr).add (j * sz) = ⟨b, o + j * sz, none⟩ := by unfold Addr.add; split <;> simp_all
    have h0 : (0 : Int) ≤ j := by omega
    simp only [execOp, hx, hix]
    have h2 : ¬ len ≤ j := by omega
    simp [Instr.indexAt, asIntOf, hul, Instr.sureAddr, h0, h2, hs', hadd]
  · cases hd
/-- the place of an element of a slice whose address is written out -/
theorem WR.indexS {dst : Option Tmp} {t : TypeId} {b o m cap : Nat} {kk : IntKind} {i : Int} (hd : decIndex ops k n F = some (dst, t, .slice (some ⟨b, o, none⟩) m cap, .int kk i)) (sz : Nat) (hsz : elemSize P t = some sz) (j : Nat) (hj : i = (j : Int)) (hi : j < m) (o' : Nat) (ho' : o' = o + j * sz)
    (K : WR P ops Q (k + 1) n ds (upd F dst (.pointer (some ⟨b, o', none⟩))) w) : WR P ops Q k n ds F w := by
  subst hj ho'
  obtain ⟨op, hdec, rfl, hrun⟩ := decIndex_run hd hsz (by omega) (by omega)
  exact .val hdec (hrun w) (by simpa using K)

/-! ### Wholes, and single cells of known blocks -/
def sizeT (P : Program) (t : TypeId) : Option Nat := (P.info? t).map (·.size)
/-- A whole struct or array is read. -/
theorem WR.loadA {dst : Option Tmp} {t : TypeId} {ad : Option Addr} {j : Nat} {cs : List Value} {sz : Nat} (hr : Rg w ad cs) (hd : decLoad ops k n F = some (dst, t, .pointer (some ⟨bk ad, of ad + j, none⟩))) (ha : scalar P t = false) (hu : (P.underlying t).isSome = true) (hs : sizeT P t = some sz) (vs : List Value) (hl : vs.length = sz) (hv : (cs.drop j).take sz = vs)
    (K : WR P ops Q (k + 1) n ds (upd F dst (.agg vs.toArray)) w) : WR P ops Q k n ds F w := by
  obtain ⟨op, hdec, rfl, he⟩ := decLoad_spec hd
  refine .val hdec (v := .agg vs.toArray) (w' := w) ?_ K
  obtain ⟨d, hd'⟩ := Option.isSome_iff_exists.1 hu
  have hag : aggD d = true := by
    unfold scalar at ha; rw [hd'] at ha; cases d <;> first | rfl | cases ha
  have hs' : (sizeOf t).run P w = .ok sz w := by
    unfold sizeT at hs
    cases hin : P.info? t with
    | none => rw [hin] at hs; cases hs
    | some inf => rw [hin] at hs; simp at hs; simp [sizeOf, typeInfo, hin, hs]
  have hc := run_loadCells_list (P := P) (w := w) ⟨bk ad, of ad + j, none⟩ vs (fun i v hi => by
    have hadd : (⟨bk ad, of ad + j, none⟩ : Addr).add i = ⟨bk ad, of ad + (j + i), none⟩ := by unfold Addr.add; split <;> simp_all [Nat.add_assoc]
    rw [hadd]
    rw [← hv, List.getElem?_take] at hi
    split at hi
    · rw [List.getElem?_drop] at hi; exact (hr (j + i) v hi).2
    · cases hi)
  rw [hl] at hc
  have hlv : (loadVar t ⟨bk ad, of ad + j, none⟩).run P w = .ok (.agg vs.toArray) w := by
    unfold loadVar
    rw [Sem.run_bind, run_isAgg_of hd', hag]
    simp only [Result.andThen_ok, if_true, Sem.run_bind, hs', hc, Sem.run_pure]
  rw [he]
  simp [Instr.loadAt, Instr.sureAddr, hlv]
theorem run_storeVar_one {t : TypeId} {g o : Nat} {c : Array Value} {e : TypeId} {v : Value} (hb : Blk w g c e) (hs : sizeT P t = some 1) (h1 : v.oneCell' = true) (hvc : v.cells = #[v]) (ho : o < c.size) :
    (storeVar t ⟨g, o, none⟩ v).run P w = .ok () (w.setCell ⟨g, o, none⟩ v) := by
  have hs' : (sizeOf t).run P w = .ok 1 w := by
    unfold sizeT at hs
    cases hin : P.info? t with
    | none => rw [hin] at hs; cases hs
    | some inf => rw [hin] at hs; simp at hs; simp [sizeOf, typeInfo, hin, hs]
  have hcell : w.cell? ⟨g, o, none⟩ = some c[o] := by rw [cell_of_row w g o c e (0, 0) hb, Array.getElem?_eq_getElem ho]
  have hst := run_store P w ⟨g, o, none⟩ v .plain h1
  unfold storeVar
  simp only [hvc, Sem.run_bind, hs', Result.andThen_ok]
  simp only [List.size_toArray, List.length_cons, List.length_nil, Nat.zero_add, ne_eq, not_true_eq_false, if_false]
  simp only [storeCells, Sem.run_bind, Addr.add, if_true]
  rw [hst]
  simp [hcell, frozen_of_row w g o c e hb]
/-- A store of one cell into a known block. -/
theorem WR.storeB {t : TypeId} {g o : Nat} {c : Array Value} {e : TypeId} {v : Value} (hb : Blk w g c e) (hd : decStore ops k n F = some (t, .pointer (some ⟨g, o, none⟩), v)) (hs : sizeT P t = some 1) (h1 : v.oneCell' = true) (hvc : v.cells = #[v]) (ho : o < c.size)
    (K : ∀ w', Blk w' g (c.setIfInBounds o v) e → Chg [g] w w' → WR P ops Q (k + 1) n ds F w') : WR P ops Q k n ds F w := by
  unfold decStore at hd
  split at hd
  · rename_i t' a x ty pos af gd hdec
    simp only [Option.some.injEq, Prod.mk.injEq] at hd
    obtain ⟨rfl, ha, rfl⟩ := hd
    refine .skip hdec (w' := w.setCell ⟨g, o, none⟩ (evD F x)) ?_ (K _ (heap_setCell_same w g o c e _ hb) ⟨rfl, rfl, rfl, by simp, fun k _ hk => heap_setCell_other w _ k _ (by simpa using hk)⟩)
    simp [execOp, Instr.storeAt, Instr.sureAddr, ha, run_storeVar_one hb hs h1 hvc ho]
  · cases hd
/-- A store into an element of an owned slice. -/
theorem WR.storeE {t : TypeId} {B : Nat} {e : TypeId} {ad : Option Addr} {m cap : Nat} {cs : List Value} {j : Nat} {v : Value} (ho : Own w B e 1 ad m cap cs) (hd : decStore ops k n F = some (t, .pointer (some ⟨bk ad, of ad + j, none⟩), v)) (hs : sizeT P t = some 1) (h1 : v.oneCell' = true) (hvc : v.cells = #[v]) (hj : j < m)
    (K : ∀ w', Own w' B e 1 ad m cap (cs.set j v) → Chg (blks ad) w w' → WR P ops Q (k + 1) n ds F w') : WR P ops Q k n ds F w := by
  rcases ho.cases with ⟨_, h0, _⟩ | ⟨c, had, hB, hb, hmc, hcm, hcs, htk⟩
  · omega
  · obtain ⟨g, rfl⟩ : ∃ g, ad = some ⟨g, 0, none⟩ := ⟨_, had⟩
    simp only [bk, of, Nat.zero_add] at hd hb
    refine .storeB hb hd hs h1 hvc (by omega) fun w' hb' hc => K w' ?_ hc
    refine ⟨by simpa using ho.1, .inr ⟨g, cap, _, rfl, hB, hb', hmc, hcm, by simpa using hcs, ?_⟩⟩
    rw [Array.toList_setIfInBounds, ← htk, List.take_set]
/-- A whole new block is written over. -/
theorem puts_all : ∀ (vs : List Value) (o : Nat) (c : Array Value), o + vs.length ≤ c.size → (puts c o vs).toList = c.toList.take o ++ vs ++ c.toList.drop (o + vs.length)
  | [], o, c, _ => by simp [puts]
  | v :: r, o, c, h => by
    simp only [List.length_cons] at h
    unfold puts
    rw [puts_all r (o + 1) _ (by simp; omega)]
    simp only [Array.toList_setIfInBounds, List.length_cons]
    have hlt : o < c.toList.length := by simp; omega
    rw [List.take_set, List.drop_set_of_lt (by omega), List.take_succ_eq_append_getElem hlt]
    rw [show o + 1 + r.length = o + (r.length + 1) by omega]
    have hlen : (c.toList.take o).length = o := by rw [List.length_take]; omega
    have : (c.toList.take o ++ [c.toList[o]]).set o v = c.toList.take o ++ [v] := by
      rw [List.set_append_right _ _ (by omega), hlen, Nat.sub_self]; rfl
    rw [this]; simp
theorem WR.storeW {t : TypeId} {g : Nat} {c : Array Value} {e : TypeId} {vs : List Value} (hb : Blk w g c e) (hd : decStore ops k n F = some (t, .pointer (some ⟨g, 0, none⟩), .agg vs.toArray)) (hs : sizeT P t = some c.size) (hl : vs.length = c.size) (h1 : ∀ v ∈ vs, v.oneCell' = true)
    (K : ∀ w', Blk w' g vs.toArray e → Chg [g] w w' → WR P ops Q (k + 1) n ds F w') : WR P ops Q k n ds F w := by
  unfold decStore at hd
  split at hd
  · rename_i t' a x ty pos af gd hdec
    simp only [Option.some.injEq, Prod.mk.injEq] at hd
    obtain ⟨rfl, ha, hx⟩ := hd
    obtain ⟨w', h2, h3, h4⟩ := run_storeCells_blk P e g vs 0 0 c w hb (by omega) h1
    have hpa : puts c (0 + 0) vs = vs.toArray := by
      apply Array.toList_inj.1
      rw [puts_all vs 0 c (by omega)]
      simp [hl]
    rw [hpa] at h3
    refine .skip hdec (w' := w') ?_ (K w' h3 h4)
    have hs' : (sizeOf t').run P w = .ok c.size w := by
      unfold sizeT at hs
      cases hin : P.info? t' with
      | none => rw [hin] at hs; cases hs
      | some inf => rw [hin] at hs; simp at hs; simp [sizeOf, typeInfo, hin, hs]
    have hsv : (storeVar t' ⟨g, 0, none⟩ (.agg vs.toArray)).run P w = .ok () w' := by
      unfold storeVar
      simp only [Value.cells, Sem.run_bind, hs', Result.andThen_ok, List.size_toArray, hl, ne_eq, not_true_eq_false, if_false, h2]
    simp [execOp, Instr.storeAt, Instr.sureAddr, ha, hx, hsv]
  · cases hd

theorem Blk.rg {w : World} {g : Nat} {c : Array Value} {e : TypeId} (h : Blk w g c e) (cs : List Value) (hcs : c.toList = cs) : Rg w (some ⟨g, 0, none⟩) cs :=
  Rg.blk h cs fun j u hu => by rw [← hcs] at hu; simpa using hu
/-! ### Division by what is not nought -/
def decBin (ops : Array Oper) (k n : Nat) (F : PF) : Option (Option Tmp × BinOp × Value × Value) :=
  match dec ops k n F with | some ⟨dst, .binOp b _ x y _, _, _, _, _⟩ => some (dst, b, evD F x, evD F y) | _ => none
theorem WR.rem {dst : Option Tmp} {kk : IntKind} {x y : Int} (hd : decBin ops k n F = some (dst, .rem, .int kk x, .int kk y)) (hy : y ≠ 0) (K : WR P ops Q (k + 1) n ds (upd F dst (.int kk (x.tmod y))) w) : WR P ops Q k n ds F w := by
  unfold decBin at hd
  split at hd
  · rename_i d b xt x' y' yt ty pos af gd hdec
    simp only [Option.some.injEq, Prod.mk.injEq] at hd
    obtain ⟨rfl, rfl, hx, hy'⟩ := hd
    refine .val hdec (v := .int kk (x.tmod y)) (w' := w) ?_ K
    simp [execOp, hx, hy', eqGuard, binOp, Op.intDiv, hy]
  · cases hd
theorem WR.quo {dst : Option Tmp} {kk : IntKind} {x y : Int} (hd : decBin ops k n F = some (dst, .quo, .int kk x, .int kk y)) (hy : y ≠ 0) (K : WR P ops Q (k + 1) n ds (upd F dst (.int kk (kk.wrap (x.tdiv y)))) w) : WR P ops Q k n ds F w := by
  unfold decBin at hd
  split at hd
  · rename_i d b xt x' y' yt ty pos af gd hdec
    simp only [Option.some.injEq, Prod.mk.injEq] at hd
    obtain ⟨rfl, rfl, hx, hy'⟩ := hd
    refine .val hdec (v := .int kk (kk.wrap (x.tdiv y))) (w' := w) ?_ K
    simp [execOp, hx, hy', eqGuard, binOp, Op.intDiv, hy]
  · cases hd

theorem Own.ofBlk {w : World} {g : Nat} {c : Array Value} {e B n cap sz : Nat} (h : Blk w g c e) (hB : B ≤ g) (hn : n ≤ cap) (hm : cap ≤ 9223372036854775807) (hc : c.size = cap * sz) (cs : List Value) (hcs : c.toList.take (n * sz) = cs) : Own w B e sz (some ⟨g, 0, none⟩) n cap cs := by
  subst hcs
  refine ⟨?_, .inr ⟨g, cap, c, rfl, hB, h, hn, by unfold maxLen; omega, hc, rfl⟩⟩
  have : n * sz ≤ cap * sz := Nat.mul_le_mul_right _ hn
  rw [List.length_take, Array.length_toList, hc, Nat.min_eq_left this]
theorem intsBd (l : List Int) (lo hi : Int) (h : (l.all fun x => decide (lo ≤ x) && decide (x ≤ hi)) = true) {j : Nat} (hj : j < l.length) : lo ≤ l.getD j 0 ∧ l.getD j 0 ≤ hi := by
  rw [List.all_eq_true] at h
  have := h (l[j]) (List.getElem_mem hj)
  simp only [Bool.and_eq_true, decide_eq_true_eq] at this
  rw [List.getD_eq_getElem?_getD, List.getElem?_eq_getElem hj]
  exact this
theorem blkInts {w : World} {g e : Nat} (k : IntKind) (l : List Int) (h : Blk w g (l.map (Value.int k)).toArray e) {j : Nat} (hj : j < l.length) : w.cell? ⟨g, j, none⟩ = some (.int k (l.getD j 0)) := by
  have h2 : (some (Obj.cells (l.map (Value.int k)).toArray e (0, 0)) : Option Obj) = w.heap[g]? := h.symm
  unfold World.cell?
  rw [← h2]
  simp [List.getD_eq_getElem?_getD, hj]
end
end Go.V
