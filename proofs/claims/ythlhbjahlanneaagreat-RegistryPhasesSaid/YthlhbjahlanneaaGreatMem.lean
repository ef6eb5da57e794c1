/- What is known of memory: blocks that are known whole, rows of cells that may be read, rows that are owned; what a step leaves of them. Nothing here is about one program. -/
import Derived.Test.YthlhbjahlanneaaGreatCore
namespace Go.V
open Go.RowKit

/-- w' is w, but for new blocks and the blocks of S. -/
structure Chg (S : List Nat) (w w' : World) : Prop where
  os : w'.os = w.os
  tape : w'.tape = w.tape
  output : w'.output = w.output
  size : w.heap.size ≤ w'.heap.size
  block : ∀ k, k < w.heap.size → k ∉ S → w'.heap[k]? = w.heap[k]?

theorem Chg.refl (S : List Nat) (w : World) : Chg S w w := ⟨rfl, rfl, rfl, Nat.le_refl _, fun _ _ _ => rfl⟩
theorem Chg.step {S T : List Nat} {w0 w w' : World} (h : Chg S w0 w) (h' : Chg T w w') (hT : ∀ t ∈ T, t ∈ S ∨ w0.heap.size ≤ t) : Chg S w0 w' :=
  ⟨h'.os.trans h.os, h'.tape.trans h.tape, h'.output.trans h.output, Nat.le_trans h.size h'.size, fun k hk hS =>
    (h'.block k (Nat.lt_of_lt_of_le hk h.size) fun hm => by rcases hT k hm with h1 | h1; exact hS h1; omega).trans (h.block k hk hS)⟩
theorem Chg.pure {S : List Nat} {w0 w w' : World} (h : Chg S w0 w) (h' : Chg [] w w') : Chg S w0 w' := h.step h' (by simp)
theorem Chg.drew (w : World) : Chg [] w { w with drawn := w.drawn + 1 } := ⟨rfl, rfl, rfl, Nat.le_refl _, fun _ _ _ => rfl⟩
theorem Chg.below {w w' : World} (h : Chg [] w w') : Below w.heap.size w w' := ⟨h.os, h.tape, h.output, h.size, fun k hk => h.block k hk (by simp)⟩
theorem Chg.ofBelow {w w' : World} (h : Below w.heap.size w w') : Chg [] w w' := ⟨h.os, h.tape, h.output, h.size, fun k hk _ => h.block k hk⟩
theorem Chg.alloc (w : World) (o : Obj) : Chg [] w (w.alloc o) := ⟨rfl, rfl, rfl, by simp, fun k hk _ => Below.heap_alloc w o k hk⟩

/-- Block g is known whole. -/
def Blk (w : World) (g : Nat) (c : Array Value) (e : TypeId) : Prop := w.heap[g]? = some (.cells c e (0, 0))
theorem Blk.lt {w : World} {g : Nat} {c : Array Value} {e : TypeId} (h : Blk w g c e) : g < w.heap.size := (Array.getElem?_eq_some_iff.1 h).1
theorem Blk.chg {S : List Nat} {w w' : World} {g : Nat} {c : Array Value} {e : TypeId} (h : Blk w g c e) (hc : Chg S w w') (hg : g ∉ S) : Blk w' g c e := (hc.block g h.lt hg).trans h
/-- A pointer to a cell. -/
abbrev pt (g o : Nat) : Value := .pointer (some ⟨g, o, none⟩)
/-- A new block. -/
structure New (w w' : World) (g : Nat) (c : Array Value) (e : TypeId) : Prop where
  blk : Blk w' g c e
  chg : Chg [] w w'
  fresh : w.heap.size ≤ g
theorem New.alloc (w : World) (c : Array Value) (e : TypeId) : New w (w.alloc (.cells c e)) w.heap.size c e := ⟨heap_alloc_new w _, Chg.alloc w _, Nat.le_refl _⟩

/-- Of a cell row's address: its block, its place. -/
def bk : Option Addr → Nat | some a => a.block | none => 0
def of : Option Addr → Nat | some a => a.off | none => 0
/-- From ad on the cells cs lie. -/
def Rg (w : World) (ad : Option Addr) (cs : List Value) : Prop :=
  ∀ j u, cs[j]? = some u → ad = some ⟨bk ad, of ad, none⟩ ∧ w.cell? ⟨bk ad, of ad + j, none⟩ = some u
theorem Rg.nil (w : World) (ad : Option Addr) : Rg w ad [] := fun j u h => by simp at h
theorem Rg.chg {S : List Nat} {w w' : World} {ad : Option Addr} {cs : List Value} (h : Rg w ad cs) (hc : Chg S w w') (hb : bk ad ∉ S ∨ cs = []) : Rg w' ad cs := by
  intro j u hu
  obtain ⟨h1, h2⟩ := h j u hu
  refine ⟨h1, ?_⟩
  rcases hb with hb | hb
  · exact (World.cell?_of_block (hc.block _ (World.block_lt_of_cell? w _ h2) hb)).trans h2
  · subst hb; simp at hu
theorem Rg.blk {w : World} {g off : Nat} {c : Array Value} {e : TypeId} (h : Blk w g c e) (cs : List Value) (hcs : ∀ j u, cs[j]? = some u → c[off + j]? = some u) : Rg w (some ⟨g, off, none⟩) cs := by
  intro j u hu
  refine ⟨rfl, ?_⟩
  have := cell_of_row w g (off + j) c e (0, 0) h
  show w.cell? ⟨g, off + j, none⟩ = some u
  rw [this]; exact hcs j u hu
/-- a part of it. -/
theorem Rg.sub {w : World} {ad : Option Addr} {cs : List Value} (h : Rg w ad cs) (l m : Nat) (ad' : Option Addr) (had : ad = some ⟨bk ad, of ad, none⟩ → ad' = some ⟨bk ad, of ad + l, none⟩) : Rg w ad' ((cs.drop l).take m) := by
  intro j u hu
  rw [List.getElem?_take] at hu
  split at hu
  · rw [List.getElem?_drop] at hu
    obtain ⟨h1, h2⟩ := h (l + j) u hu
    have e := had h1
    subst e
    exact ⟨rfl, by simpa [bk, of, Nat.add_assoc] using h2⟩
  · cases hu
/-- A slice whose block is the call's own, from base on. -/
def Own (w : World) (B : Nat) (e : TypeId) (sz : Nat) (ad : Option Addr) (n cap : Nat) (cs : List Value) : Prop := w.ownsRow B e sz (.slice ad n cap) n cs
theorem Own.len {w : World} {B : Nat} {e : TypeId} {sz : Nat} {ad : Option Addr} {n cap : Nat} {cs : List Value} (h : Own w B e sz ad n cap cs) : cs.length = n * sz := h.1
theorem Own.cases {w : World} {B : Nat} {e : TypeId} {sz : Nat} {ad : Option Addr} {n cap : Nat} {cs : List Value} (h : Own w B e sz ad n cap cs) :
    (ad = none ∧ n = 0 ∧ cap = 0 ∧ cs = []) ∨ ∃ c, ad = some ⟨bk ad, 0, none⟩ ∧ B ≤ bk ad ∧ Blk w (bk ad) c e ∧ n ≤ cap ∧ cap ≤ maxLen ∧ c.size = cap * sz ∧ c.toList.take (n * sz) = cs := by
  obtain ⟨h1, h2⟩ := h
  rcases h2 with ⟨h2, h3⟩ | ⟨g, cap', cur, hv, hb, hg, hn, hm, hs, ht⟩
  · simp only [Value.slice.injEq] at h2
    obtain ⟨rfl, rfl, rfl⟩ := h2
    exact .inl ⟨rfl, rfl, rfl, List.eq_nil_of_length_eq_zero (by simpa using h1)⟩
  · simp only [Value.slice.injEq, true_and] at hv
    obtain ⟨rfl, rfl⟩ := hv
    exact .inr ⟨cur, rfl, hb, hg, hn, hm, hs, ht⟩
theorem Own.rg {w : World} {B : Nat} {e : TypeId} {sz : Nat} {ad : Option Addr} {n cap : Nat} {cs : List Value} (h : Own w B e sz ad n cap cs) : Rg w ad cs := by
  rcases h.cases with ⟨_, _, _, rfl⟩ | ⟨c, had, _, hb, _, _, _, ht⟩
  · exact Rg.nil _ _
  · rw [had]
    refine Rg.blk hb cs fun j u hu => ?_
    rw [← ht, List.getElem?_take] at hu
    split at hu
    · simpa using hu
    · cases hu
theorem Own.chg {S : List Nat} {w w' : World} {B : Nat} {e : TypeId} {sz : Nat} {ad : Option Addr} {n cap : Nat} {cs : List Value} (h : Own w B e sz ad n cap cs) (hc : Chg S w w') (hb : bk ad ∉ S ∨ ad = none) : Own w' B e sz ad n cap cs := by
  obtain ⟨h1, h2⟩ := h
  refine ⟨h1, ?_⟩
  rcases h2 with h2 | ⟨g, cap', cur, hv, hB, hg, r⟩
  · exact .inl h2
  · refine .inr ⟨g, cap', cur, hv, hB, ?_, r⟩
    simp only [Value.slice.injEq, true_and] at hv
    rcases hb with hb | hb
    · rw [hv.1] at hb
      exact (hc.block g (Array.getElem?_eq_some_iff.1 hg).1 hb).trans hg
    · rw [hb] at hv; simp at hv
theorem Own.nil (w : World) (B : Nat) (e : TypeId) (sz : Nat) : Own w B e sz none 0 0 [] := World.ownsRow_nil w B e sz
theorem Own.le {w : World} {B : Nat} {e : TypeId} {sz : Nat} {ad : Option Addr} {n cap : Nat} {cs : List Value} (h : Own w B e sz ad n cap cs) : n ≤ cap ∧ cap ≤ maxLen := by
  rcases h.cases with ⟨_, rfl, rfl, _⟩ | ⟨c, _, _, _, h1, h2, _⟩
  · exact ⟨Nat.le_refl _, Nat.zero_le _⟩
  · exact ⟨h1, h2⟩
theorem Own.ge {w : World} {B : Nat} {e : TypeId} {sz : Nat} {ad : Option Addr} {n cap : Nat} {cs : List Value} (h : Own w B e sz ad n cap cs) : ad = none ∨ (B ≤ bk ad ∧ bk ad < w.heap.size) := by
  rcases h.cases with ⟨h1, _⟩ | ⟨c, _, h1, h2, _⟩
  · exact .inl h1
  · exact .inr ⟨h1, h2.lt⟩

/-! ### Loads and stores -/
/-- What a variable of type t at place o of the row c holds. -/
def ldv (P : Program) (t : TypeId) (c : Array Value) (o : Nat) : Option Value :=
  match P.info? t, P.underlying t with
  | some i, some (.struct _) | some i, some (.array _ _) => match Nat.ble (o + i.size) c.size with | true => some (.agg (c.extract o (o + i.size))) | false => none
  | some _, some _ => c[o]?
  | _, _ => none
def scalar (P : Program) (t : TypeId) : Bool := match P.underlying t with | some (.struct _) | some (.array _ _) => false | some _ => true | none => false

def aggD : TypeDesc → Bool | .struct _ => true | .array _ _ => true | _ => false
theorem run_isAgg_of {P : Program} {t : TypeId} {d : TypeDesc} (h : P.underlying t = some d) (w : World) : (isAgg t).run P w = .ok (aggD d) w := by
  unfold isAgg
  rw [Sem.run_bind]
  have : (underlying t).run P w = .ok d w := by simp [underlying, h]
  rw [this]
  cases d <;> rfl

theorem run_loadVar_scalar {P : Program} {t : TypeId} (h : scalar P t = true) {a : Addr} {w : World} {v : Value} (hv : w.cell? a = some v) : (loadVar t a).run P w = .ok v w := by
  unfold scalar at h
  cases hd : P.underlying t with
  | none => rw [hd] at h; cases h
  | some d =>
    rw [hd] at h
    unfold loadVar
    rw [Sem.run_bind, run_isAgg_of hd]
    cases d <;> first | (cases h; done) | simp [aggD, load, Sem.run, hv]

theorem cells_extract (w : World) (g : Nat) (c : Array Value) (e : TypeId) (fr : Nat × Nat) (hb : w.heap[g]? = some (.cells c e fr)) (o n : Nat) (hn : o + n ≤ c.size) (P : Program) :
    (loadCells ⟨g, o, none⟩ n).run P w = .ok (c.extract o (o + n)) w := by
  have := run_loadCells_list (P := P) (w := w) ⟨g, o, none⟩ (c.extract o (o + n)).toList (fun j v hj => by
    have hadd : (⟨g, o, none⟩ : Addr).add j = ⟨g, o + j, none⟩ := by unfold Addr.add; split <;> simp_all
    rw [hadd, cell_of_row w g (o + j) c e fr hb]
    simp only [Array.getElem?_toList, Array.getElem?_extract] at hj
    split at hj
    · exact hj
    · cases hj)
  have hl : (c.extract o (o + n)).toList.length = n := by simp; omega
  rw [hl] at this
  rw [this]

theorem run_loadVar_ldv {P : Program} {t : TypeId} {w : World} {g o : Nat} {c : Array Value} {e : TypeId} {fr : Nat × Nat} {v : Value} (hb : w.heap[g]? = some (.cells c e fr)) (h : ldv P t c o = some v) :
    (loadVar t ⟨g, o, none⟩).run P w = .ok v w := by
  unfold ldv at h
  have agg : ∀ (i : TypeInfo) (d : TypeDesc), P.info? t = some i → P.underlying t = some d → aggD d = true →
      (match Nat.ble (o + i.size) c.size with | true => some (Value.agg (c.extract o (o + i.size))) | false => none) = some v → (loadVar t ⟨g, o, none⟩).run P w = .ok v w := by
    intro i d hi hd hag hv
    split at hv
    · rename_i hle
      simp only [Option.some.injEq] at hv
      subst hv
      have hle' := Nat.le_of_ble_eq_true hle
      unfold loadVar
      rw [Sem.run_bind, run_isAgg_of hd, hag]
      have hs : (sizeOf t).run P w = .ok i.size w := by simp [sizeOf, typeInfo, hi]
      simp only [Result.andThen_ok, if_true, Sem.run_bind, hs, cells_extract w g c e fr hb o i.size hle' P, Sem.run_pure]
    · cases hv
  split at h
  · rename_i i _ hi hd; exact agg i _ hi hd rfl h
  · rename_i i _ _ hi hd; exact agg i _ hi hd rfl h
  · rename_i i d hn1 hn2 hi hd
    refine run_loadVar_scalar ?_ (by rw [cell_of_row w g o c e fr hb]; exact h)
    unfold scalar
    rw [hd]
    cases d <;> first | rfl | (exact absurd rfl (hn1 _ )) | (exact absurd rfl (hn2 _ _)) | skip
    all_goals simp_all
  · cases h

/-- The row c, a variable of type t at place o having been written. -/
def puts (c : Array Value) (o : Nat) : List Value → Array Value
  | [] => c
  | v :: r => puts (c.setIfInBounds o v) (o + 1) r
def stv (P : Program) (t : TypeId) (c : Array Value) (o : Nat) (v : Value) : Option (Array Value) :=
  match P.info? t with
  | some i => match (Nat.beq v.cells.size i.size && (Nat.ble (o + i.size) c.size && v.cells.toList.all Value.oneCell')) with | true => some (puts c o v.cells.toList) | false => none
  | none => none

theorem run_storeCells_blk (P : Program) (e : TypeId) (g : Nat) : ∀ (vs : List Value) (o i : Nat) (c : Array Value) (w : World), Blk w g c e → o + i + vs.length ≤ c.size → (∀ v ∈ vs, v.oneCell' = true) →
    ∃ w', (storeCells ⟨g, o, none⟩ vs i).run P w = .ok () w' ∧ Blk w' g (puts c (o + i) vs) e ∧ Chg [g] w w'
  | [], o, i, c, w, hb, _, _ => ⟨w, rfl, hb, Chg.refl _ _⟩
  | v :: r, o, i, c, w, hb, hl, h1 => by
    simp only [List.length_cons] at hl
    have hadd : (⟨g, o, none⟩ : Addr).add i = ⟨g, o + i, none⟩ := by unfold Addr.add; split <;> simp_all
    have hcell : w.cell? ⟨g, o + i, none⟩ = some c[o + i] := by
      rw [cell_of_row w g (o + i) c e (0, 0) hb, Array.getElem?_eq_getElem (by omega)]
    have hfz := frozen_of_row w g (o + i) c e hb
    have hst : (store ((⟨g, o, none⟩ : Addr).add i) v).run P w = .ok () (w.setCell ⟨g, o + i, none⟩ v) := by
      rw [hadd]
      have := run_store P w ⟨g, o + i, none⟩ v .plain (h1 v (by simp))
      rw [this]
      simp [hcell, hfz]
    have hb' : Blk (w.setCell ⟨g, o + i, none⟩ v) g (c.setIfInBounds (o + i) v) e := heap_setCell_same w g (o + i) c e v hb
    obtain ⟨w', h2, h3, h4⟩ := run_storeCells_blk P e g r o (i + 1) _ _ hb' (by simp; omega) (fun u hu => h1 u (by simp [hu]))
    refine ⟨w', ?_, h3, ?_⟩
    · unfold storeCells
      rw [Sem.run_bind, hst]
      exact h2
    · have hc1 : Chg [g] w (w.setCell ⟨g, o + i, none⟩ v) := ⟨rfl, rfl, rfl, by simp, fun k _ hk => heap_setCell_other w _ k v (by simpa using hk)⟩
      exact hc1.step h4 (by simp)

theorem run_storeVar_stv {P : Program} {t : TypeId} {w : World} {g o : Nat} {c c' : Array Value} {e : TypeId} {v : Value} (hb : Blk w g c e) (h : stv P t c o v = some c') :
    ∃ w', (storeVar t ⟨g, o, none⟩ v).run P w = .ok () w' ∧ Blk w' g c' e ∧ Chg [g] w w' := by
  unfold stv at h
  split at h
  · rename_i i hi
    split at h
    · rename_i hok
      simp only [Option.some.injEq] at h
      subst h
      simp only [Bool.and_eq_true] at hok
      have hsz : v.cells.size = i.size := Nat.eq_of_beq_eq_true hok.1
      have hle := Nat.le_of_ble_eq_true hok.2.1
      have hone : ∀ u ∈ v.cells.toList, u.oneCell' = true := by
        have := hok.2.2; rw [List.all_eq_true] at this; exact this
      obtain ⟨w', h1, h2, h3⟩ := run_storeCells_blk P e g v.cells.toList o 0 c w hb (by simp [hsz]; omega) hone
      refine ⟨w', ?_, h2, h3⟩
      have hs : (sizeOf t).run P w = .ok i.size w := by simp [sizeOf, typeInfo, hi]
      unfold storeVar
      simp only [Sem.run_bind, hs, Result.andThen_ok, hsz, ne_eq, not_true_eq_false, if_false, h1]
    · cases h
  · cases h

section
variable {P : Program} {ops : Array Oper} {Q : Exit → Act → World → Prop} {k n : Nat} {ds : List Deferred} {F : PF} {w : World}

/-! ### Operations that make or touch memory -/
def decBox (ops : Array Oper) (k n : Nat) (F : PF) : Option (Option Tmp × TypeId × Value) :=
  match dec ops k n F with | some ⟨dst, .box e x, _, _, _, _⟩ => some (dst, e, evD F x) | _ => none
theorem WR.box {dst : Option Tmp} {e : TypeId} {v : Value} (hd : decBox ops k n F = some (dst, e, v)) (c : Array Value) (hc : v.cells = c)
    (K : ∀ g w', New w w' g c e → WR P ops Q (k + 1) n ds (upd F dst (.pointer (some ⟨g, 0, none⟩))) w') : WR P ops Q k n ds F w := by
  unfold decBox at hd
  split at hd
  · rename_i d e' x ty pos af gd hdec
    simp only [Option.some.injEq, Prod.mk.injEq] at hd
    obtain ⟨rfl, rfl, rfl⟩ := hd
    subst hc
    exact .val hdec (v := .pointer (some ⟨w.heap.size, 0, none⟩)) (w' := w.alloc (.cells (evD F x).cells e')) rfl (K _ _ (New.alloc w _ _))
  · cases hd

def decAlloc (ops : Array Oper) (k n : Nat) (F : PF) : Option (Option Tmp × TypeId) :=
  match dec ops k n F with | some ⟨dst, .alloc e, _, _, _, _⟩ => some (dst, e) | _ => none
def zeroOf (P : Program) (e : TypeId) : Option (Array Value) := match P.info? e with | some i => (match i.zero with | some z => some z.cells | none => none) | none => none
theorem zeroOf_spec {e : TypeId} {c : Array Value} (h : zeroOf P e = some c) : ∃ i z, P.info? e = some i ∧ i.zero = some z ∧ z.cells = c := by
  unfold zeroOf at h
  split at h
  · rename_i i hi
    split at h
    · rename_i z hz
      exact ⟨i, z, hi, hz, by simpa using h⟩
    · cases h
  · cases h
theorem WR.alloc {dst : Option Tmp} {e : TypeId} (hd : decAlloc ops k n F = some (dst, e)) (c : Array Value) (hc : zeroOf P e = some c)
    (K : ∀ g w', New w w' g c e → WR P ops Q (k + 1) n ds (upd F dst (.pointer (some ⟨g, 0, none⟩))) w') : WR P ops Q k n ds F w := by
  unfold decAlloc at hd
  split at hd
  · rename_i d e' ty pos af gd hdec
    simp only [Option.some.injEq, Prod.mk.injEq] at hd
    obtain ⟨rfl, rfl⟩ := hd
    obtain ⟨i, z, hi, hz, rfl⟩ := zeroOf_spec hc
    refine .val hdec (v := .pointer (some ⟨w.heap.size, 0, none⟩)) (w' := w.alloc (.cells z.cells e')) ?_ (K _ _ (New.alloc w _ _))
    simp [execOp, Instr.alloc, zeroValue, typeInfo, hi, hz, newVar, newRow]
  · cases hd

def decLoad (ops : Array Oper) (k n : Nat) (F : PF) : Option (Option Tmp × TypeId × Value) :=
  match dec ops k n F with | some ⟨dst, .load t x, _, _, _, _⟩ => some (dst, t, evD F x) | _ => none
theorem decLoad_spec {dst : Option Tmp} {t : TypeId} {p : Value} (hd : decLoad ops k n F = some (dst, t, p)) : ∃ o, dec ops k n F = some o ∧ o.dst = dst ∧
    execOp (evD F) o = (do pure (.value (← Instr.loadAt t p)) : Sem Next) := by
  unfold decLoad at hd
  split at hd
  · rename_i d e' x ty pos af gd hdec
    simp only [Option.some.injEq, Prod.mk.injEq] at hd
    obtain ⟨rfl, rfl, rfl⟩ := hd
    exact ⟨_, hdec, rfl, rfl⟩
  · cases hd
def decStore (ops : Array Oper) (k n : Nat) (F : PF) : Option (TypeId × Value × Value) :=
  match dec ops k n F with | some ⟨none, .store t a x, _, _, _, _⟩ => some (t, evD F a, evD F x) | _ => none
/-- A store into a block that is known. -/
theorem WR.store {t : TypeId} {g o : Nat} {c : Array Value} {e : TypeId} {v : Value} (hb : Blk w g c e) (hd : decStore ops k n F = some (t, .pointer (some ⟨g, o, none⟩), v)) (c' : Array Value) (hv : stv P t c o v = some c')
    (K : ∀ w', Blk w' g c' e → Chg [g] w w' → WR P ops Q (k + 1) n ds F w') : WR P ops Q k n ds F w := by
  unfold decStore at hd
  split at hd
  · rename_i t' a x ty pos af gd hdec
    simp only [Option.some.injEq, Prod.mk.injEq] at hd
    obtain ⟨rfl, ha, rfl⟩ := hd
    obtain ⟨w', h1, h2, h3⟩ := run_storeVar_stv (P := P) hb hv
    refine .skip hdec (w' := w') ?_ (K w' h2 h3)
    simp [execOp, Instr.storeAt, Instr.sureAddr, ha, h1]
  · cases hd

def decIndex (ops : Array Oper) (k n : Nat) (F : PF) : Option (Option Tmp × TypeId × Value × Value) :=
  match dec ops k n F with | some ⟨dst, .indexAddr t x i, _, _, _, _⟩ => some (dst, t, evD F x, evD F i) | _ => none
def elemSize (P : Program) (t : TypeId) : Option Nat := match P.underlying t with | some (.slice e) => (P.info? e).map (·.size) | _ => none
/-! ### Calls -/
/-- A call that returns: what it tells of the result and of the world; S: the blocks that it may have changed. -/
def Ret (S : List Nat) (w : World) (R : Value → World → Prop) : Ending → World → Prop
  | .returned v, w' => Chg S w w' ∧ R v w'
  | _, _ => False
/-- It returns just this. -/
def RetV (w : World) (v : Value) : Ending → World → Prop := Ret [] w fun u _ => u = v
def decRun (P : Program) (ops : Array Oper) (k n : Nat) (F : PF) (w : World) : Option (Option Tmp × Result Next) :=
  match dec ops k n F with | some o => some (o.dst, (execOp (evD F) o).run P w) | none => none
theorem decRun_spec {w : World} {dst : Option Tmp} {r : Result Next} (h : decRun P ops k n F w = some (dst, r)) : ∃ o, dec ops k n F = some o ∧ o.dst = dst ∧ (execOp (evD F) o).run P w = r := by
  unfold decRun at h
  split at h
  · rename_i o ho
    simp only [Option.some.injEq, Prod.mk.injEq] at h
    exact ⟨o, ho, h.1, h.2⟩
  · cases h
/-! ### A region that draws its order, and whose operations are quiet -/
def WQ (P : Program) (ops : Array Oper) (C : World → Prop) (Qf : Act → Prop) (k n : Nat) (ds : List Deferred) (F : PF) : Prop :=
  ∀ a, Fr n ds F a → wpQuiet P ops C Qf (ops.toList.drop k) a
theorem CW.regionQ {id : Nat} (hm : P.follows .mixedOrders = true) (hB : Region.lexB .any ops = true)
    (h : WQ P ops (fun w' => Chg [] w w') (fun a' => ∀ w', Chg [] w w' → Q .normal a' w') 0 n ds F) : CW P (.region id ops true) Q n ds F w :=
  fun a ha => wp_region_quiet (C := fun w' => Chg [] w w') hm hB (Chg.drew w) (by simpa using h a ha)
variable {C : World → Prop} {Qf : Act → Prop}
theorem WQ.step {o : Oper} {v : Value} (hd : dec ops k n F = some o) (h : ∀ w, C w → Oper.quietUpon P C w v ((execOp (evD F) o).run P w))
    (K : WQ P ops C Qf (k + 1) n ds (upd F o.dst v)) : WQ P ops C Qf k n ds F := by
  intro a ha
  obtain ⟨ho, hdst, hs, hp, hw⟩ := dec_spec hd
  rw [drop_of_get ho]
  unfold wpQuiet
  rw [if_pos (hw ha)]
  refine ⟨v, fun w hC => ?_, K _ (ha.upd hdst v)⟩
  unfold Oper.quietAt
  rw [exec_eq ha hs hp]
  exact h w hC
theorem WQ.pass {o : Oper} (ho : ops[k]? = some o) (hw : wants ops F o = some false) (hd : okDst n o.dst = true) (K : WQ P ops C Qf (k + 1) n ds (upd F o.dst undef)) : WQ P ops C Qf k n ds F := by
  intro a ha
  rw [drop_of_get ho]
  unfold wpQuiet
  rw [if_neg (by rw [wants_spec ha hw]; simp)]
  exact K _ (ha.upd hd undef)
/-- An operation that is passed over. -/
def passDst (ops : Array Oper) (k n : Nat) (F : PF) : Option (Option Tmp) :=
  match ops[k]? with
  | some o => (match wants ops F o with | some false => (match okDst n o.dst with | true => some o.dst | false => none) | _ => none)
  | none => none
theorem WQ.pass1 {dst : Option Tmp} (h : passDst ops k n F = some dst) (K : WQ P ops C Qf (k + 1) n ds (upd F dst undef)) : WQ P ops C Qf k n ds F := by
  unfold passDst at h
  split at h
  · rename_i o ho
    split at h
    · rename_i hw
      split at h
      · rename_i hd
        simp only [Option.some.injEq] at h
        subst h
        exact .pass ho hw hd K
      · cases h
    · cases h
  · cases h
theorem decIndex_run {dst : Option Tmp} {t : TypeId} {b o : Nat} {m cap : Nat} {kk : IntKind} {i : Int} {sz : Nat} (hd : decIndex ops k n F = some (dst, t, .slice (some ⟨b, o, none⟩) m cap, .int kk i)) (hsz : elemSize P t = some sz)
    (h0 : 0 ≤ i) (hi : i < m) : ∃ op, dec ops k n F = some op ∧ op.dst = dst ∧ ∀ w, (execOp (evD F) op).run P w = .ok (.value (.pointer (some ⟨b, o + i.toNat * sz, none⟩))) w := by
  unfold decIndex at hd
  split at hd
  · rename_i d t' x ix ty pos af gd hdec
    simp only [Option.some.injEq, Prod.mk.injEq] at hd
    obtain ⟨rfl, rfl, hx, hix⟩ := hd
    unfold elemSize at hsz
    split at hsz
    · rename_i e hu
      cases hinf : P.info? e with
      | none => rw [hinf] at hsz; cases hsz
      | some inf =>
        rw [hinf] at hsz
        simp only [Option.map_some, Option.some.injEq] at hsz
        refine ⟨_, hdec, rfl, fun w => ?_⟩
        have hs : (sizeOf e).run P w = .ok inf.size w := by simp [sizeOf, typeInfo, hinf]
        have hul : (underlying t').run P w = .ok (.slice e) w := by simp [underlying, hu]
        have hadd : (⟨b, o, none⟩ : Addr).add (i.toNat * inf.size) = ⟨b, o + i.toNat * inf.size, none⟩ := by unfold Addr.add; split <;> simp_all
        simp only [execOp, hx, hix]
        simp [Instr.indexAt, asIntOf, hul, h0, hi, hs, ← hsz, hadd]
    · cases hsz
  · cases hd
theorem WQ.fin (hk : Nat.ble ops.size k = true) (K : ∀ w', Chg [] w w' → ∀ a, Fr n ds F a → Q .normal a w') : WQ P ops C (fun a' => ∀ w', Chg [] w w' → Q .normal a' w') k n ds F := fun a ha => by
  rw [List.drop_eq_nil_of_le (by simpa using Nat.le_of_ble_eq_true hk)]
  exact fun w' h => K w' h a ha
end
end Go.V
