/- From a law's arguments, as the statement reads them, to lists; and back to the statement. Nothing here is about one program. -/
import Derived.Test.YtbklhipicfimeaaMem
import Derived.ProofKit
import Derived.OpenShut
import Derived.Carry
import Derived.JoinedCond
import Derived.Deep.Slices
namespace Go.V
open Go.RowKit Go.ChangeShapes Go.WideShapes Go.ChangeAt Go.Deep

theorem mapM_get {α β : Type} {f : α → Option β} : ∀ {xs : List α} {l : List β}, xs.mapM f = some l → l.length = xs.length ∧ ∀ (k : Nat) (x : α), xs[k]? = some x → f x = l[k]?
  | [], l, h => by
    simp at h; subst h; exact ⟨rfl, fun k x hx => by simp at hx⟩
  | x :: xs, l, h => by
    rw [List.mapM_cons] at h
    cases hx : f x with
    | none => rw [hx] at h; simp at h
    | some y =>
      rw [hx] at h
      cases hr : xs.mapM f with
      | none => rw [hr] at h; simp at h
      | some r =>
        rw [hr] at h
        simp only [Option.pure_def, Option.bind_eq_bind, Option.bind_some, Option.some.injEq] at h
        subst h
        obtain ⟨h1, h2⟩ := mapM_get hr
        refine ⟨by simp [h1], fun k z hz => ?_⟩
        cases k with
        | zero => simp at hz; subst hz; simpa using hx
        | succ k => simp at hz; simpa using h2 k z hz
theorem cells_get {w : World} {base : Nat} {a : Addr} {n : Nat} {cs : List Value} (h : w.cells? base a n = some cs) : cs.length = n ∧ ∀ (k : Nat) (u : Value), cs[k]? = some u → w.cell? (a.add k) = some u := by
  unfold World.cells? at h
  split at h
  · obtain ⟨h1, h2⟩ := mapM_get h
    refine ⟨by simpa using h1, fun k u hu => ?_⟩
    have hk : k < n := by
      have := (List.getElem?_eq_some_iff.1 hu).1
      rw [h1] at this; simpa using this
    rw [h2 k k (by simp [hk]), hu]
  · cases h
theorem flatMap_one {α : Type} (f : α → Value) (l : List α) : l.flatMap (fun b => [f b]) = l.map f := by
  induction l with
  | nil => rfl
  | cons x l ih => rw [List.flatMap_cons, ih, List.map_cons]; rfl
section
variable {H : Type} {enc : TypeId × Value → H} {P : Program} {w : World} {t e : TypeId}
/-- A slice that came in, as a list. -/
theorem openSl {α : Type} [Inhabited α] (f : α → List Value) (sz : Nat) (good : α → Prop) (hc : P.cellsOf e = sz) (hf : ∀ y, (f y).length = sz)
    (hE : ∀ (n : Nat) (cs : List Value) (x : DataW H × List MemPlace), cs.length = sz → DataW.trod enc P w 0 (fun _ => true) true n e cs = some x → ∃ y, good y ∧ cs = f y)
    (ht : P.underlying t = some (.slice e)) {fuel : Nat} {cs0 : List Value} {x0 : DataW H × List MemPlace} (h : DataW.trod enc P w 0 (fun _ => true) true fuel t cs0 = some x0) :
    ∃ (ad : Option Addr) (l : List α) (cap : Nat), cs0 = [.slice ad l.length cap] ∧ Rg w ad (l.flatMap f) ∧ (∀ y ∈ l, good y) ∧ l.length ≤ cap ∧ cap ≤ maxLen ∧ (ad = none → l = [] ∧ cap = 0) := by
  rcases open_slice ht h with ⟨rfl, _⟩ | ⟨a, len, cap, m, n, D, Pl, rfl, _, hl, hm, hmm, _, hx⟩
  · exact ⟨none, [], 0, rfl, Rg.nil _ _, by simp, Nat.le_refl _, Nat.zero_le _, fun _ => ⟨rfl, rfl⟩⟩
  · simp only [if_true] at hmm
    subst hmm
    have key : ∀ i, ∃ y : α, i < len → good y ∧ ∃ cs', w.cells? 0 (a.add (i * P.cellsOf e)) (P.cellsOf e) = some cs' ∧ cs' = f y := by
      intro i
      by_cases hi : i < len
      · obtain ⟨cs', h1, h2⟩ := hx i (by omega)
        obtain ⟨y, hy, rfl⟩ := hE n cs' _ (by rw [← hc]; exact (cells_get h1).1) h2
        exact ⟨y, fun _ => ⟨hy, _, h1, rfl⟩⟩
      · exact ⟨default, fun h => absurd h hi⟩
    let B : Nat → α := fun i => (key i).choose
    have hB : ∀ i, i < len → good (B i) ∧ ∃ cs', w.cells? 0 (a.add (i * P.cellsOf e)) (P.cellsOf e) = some cs' ∧ cs' = f (B i) := fun i => (key i).choose_spec
    refine ⟨some a, (List.range len).map B, m, by simp, ?_, ?_, by simpa using hl, hm, fun h => by cases h⟩
    · intro j u hj
      obtain ⟨i, k, y, rfl, hk, hy, hu⟩ := flatMap_get hf hj
      obtain ⟨hi0, hy'⟩ := List.getElem?_eq_some_iff.1 hy
      have hi : i < len := by simpa using hi0
      simp only [List.getElem_map, List.getElem_range] at hy'
      subst hy'
      obtain ⟨_, cs', h1, rfl⟩ := hB i hi
      have hcell := (cells_get h1).2 k u hu
      rw [hc] at hcell
      have hsp : a.spot = none := by
        obtain ⟨_, cs0, h4, h5⟩ := hB 0 (by omega)
        have := (cells_get h4).2 0 ((f (B 0))[0]'(by rw [hf]; omega)) (by rw [h5]; exact List.getElem?_eq_getElem _)
        simp only [Nat.zero_mul, Addr.add, if_true] at this
        unfold World.cell? at this
        split at this
        · split at this
          · cases this
          · rename_i hs; simpa using hs
        · cases this
      obtain ⟨ab, ao, asp⟩ := a
      subst hsp
      refine ⟨rfl, ?_⟩
      have e2 : ((⟨ab, ao, none⟩ : Addr).add (i * sz)).add k = ⟨ab, ao + (i * sz + k), none⟩ := by
        unfold Addr.add
        split <;> split <;> simp_all <;> omega
      rw [e2] at hcell
      exact hcell
    · intro y hy
      obtain ⟨i, hi, rfl⟩ := List.mem_map.1 hy
      exact (hB i (List.mem_range.1 hi)).1
theorem openSlV {α : Type} [Inhabited α] {W : World} {r : Reach} {base : Nat} {v : Value} {d : DataW H} {p : List MemPlace} (f : α → List Value) (sz : Nat) (good : α → Prop) (hc : P.cellsOf e = sz) (hf : ∀ y, (f y).length = sz)
    (hE : ∀ (n : Nat) (cs : List Value) (x : DataW H × List MemPlace), cs.length = sz → DataW.trod enc P W 0 (fun _ => true) true n e cs = some x → ∃ y, good y ∧ cs = f y)
    (ht : P.underlying t = some (.slice e)) (hv : Value.okWide P W r base t v) (h : DataW.Trod enc P W 0 (fun _ => true) true t v d p) :
    ∃ (ad : Option Addr) (l : List α) (cap : Nat), v = .slice ad l.length cap ∧ Rg W ad (l.flatMap f) ∧ (∀ y ∈ l, good y) ∧ l.length ≤ cap ∧ cap ≤ maxLen ∧ (ad = none → l = [] ∧ cap = 0) := by
  obtain ⟨a, len, cap, rfl⟩ := okWide_slice ht hv
  obtain ⟨n, hn⟩ := h
  obtain ⟨ad, l, cap', h1, h2⟩ := openSl f sz good hc hf hE ht hn
  refine ⟨ad, l, cap', ?_, h2⟩
  simpa [Value.cells] using h1
theorem bdU8 {a : Int} (h : IntKind.u8.min ≤ a ∧ a ≤ IntKind.u8.max) : 0 ≤ a ∧ a ≤ 255 := by
  simp [IntKind.min, IntKind.max, IntKind.bits, IntKind.signed] at h; omega
theorem bdU16 {a : Int} (h : IntKind.u16.min ≤ a ∧ a ≤ IntKind.u16.max) : 0 ≤ a ∧ a ≤ 65535 := by
  simp [IntKind.min, IntKind.max, IntKind.bits, IntKind.signed] at h; omega
theorem bdU32 {a : Int} (h : IntKind.u32.min ≤ a ∧ a ≤ IntKind.u32.max) : 0 ≤ a ∧ a ≤ 4294967295 := by
  simp [IntKind.min, IntKind.max, IntKind.bits, IntKind.signed] at h; omega
theorem bdU64 {a : Int} (h : IntKind.u64.min ≤ a ∧ a ≤ IntKind.u64.max) : 0 ≤ a ∧ a ≤ 18446744073709551615 := by
  simp [IntKind.min, IntKind.max, IntKind.bits, IntKind.signed] at h; omega
theorem bdI8 {a : Int} (h : IntKind.i8.min ≤ a ∧ a ≤ IntKind.i8.max) : -128 ≤ a ∧ a ≤ 127 := by
  simp [IntKind.min, IntKind.max, IntKind.bits, IntKind.signed] at h; omega
theorem bdI16 {a : Int} (h : IntKind.i16.min ≤ a ∧ a ≤ IntKind.i16.max) : -32768 ≤ a ∧ a ≤ 32767 := by
  simp [IntKind.min, IntKind.max, IntKind.bits, IntKind.signed] at h; omega
theorem bdI32 {a : Int} (h : IntKind.i32.min ≤ a ∧ a ≤ IntKind.i32.max) : -2147483648 ≤ a ∧ a ≤ 2147483647 := by
  simp [IntKind.min, IntKind.max, IntKind.bits, IntKind.signed] at h; omega
theorem bdI64 {a : Int} (h : IntKind.i64.min ≤ a ∧ a ≤ IntKind.i64.max) : -9223372036854775808 ≤ a ∧ a ≤ 9223372036854775807 := by
  simp [IntKind.min, IntKind.max, IntKind.bits, IntKind.signed] at h; omega
theorem openInt {W : World} {r : Reach} {base : Nat} {v : Value} {d : DataW H} {p : List MemPlace} {k : IntKind} (ht : P.underlying t = some (.int k)) (hv : Value.okWide P W r base t v) (h : DataW.Trod enc P W 0 (fun _ => true) true t v d p) :
    ∃ a : Int, v = .int k a ∧ k.min ≤ a ∧ a ≤ k.max := by
  obtain ⟨a, rfl, _, _, wa⟩ := open_int ht hv h
  refine ⟨a, rfl, ?_⟩
  simpa [Lit.wf] using wa
theorem openBool {W : World} {r : Reach} {base : Nat} {v : Value} {d : DataW H} {p : List MemPlace} (ht : P.underlying t = some .bool) (hv : Value.okWide P W r base t v) (h : DataW.Trod enc P W 0 (fun _ => true) true t v d p) :
    ∃ b : Bool, v = .bool b := by
  obtain ⟨b, rfl, _⟩ := open_bool ht hv h
  exact ⟨b, rfl⟩
theorem openBools {W : World} {r : Reach} {base : Nat} {v : Value} {d : DataW H} {p : List MemPlace} (ht : P.underlying t = some (.slice e)) (he : P.underlying e = some .bool) (hc : P.cellsOf e = 1) (hv : Value.okWide P W r base t v) (h : DataW.Trod enc P W 0 (fun _ => true) true t v d p) :
    ∃ (ad : Option Addr) (xs : List Bool) (cap : Nat), v = .slice ad xs.length cap ∧ Rg W ad (xs.map Value.bool) ∧ xs.length ≤ cap ∧ cap ≤ maxLen ∧ (ad = none → xs.length = 0 ∧ cap = 0) := by
  obtain ⟨ad, l, cap, h1, h2, _, h3, h4, h5⟩ := openSlV (fun b : Bool => [.bool b]) 1 (fun _ => True) hc (fun _ => rfl) (fun n cs x _ hx => by
    obtain ⟨b, h1, _⟩ := DataW.trod_bool he hx
    exact ⟨b, trivial, h1⟩) ht hv h
  refine ⟨ad, l, cap, h1, ?_, h3, h4, fun hn => ⟨by rw [(h5 hn).1]; rfl, (h5 hn).2⟩⟩
  rwa [flatMap_one] at h2
theorem fieldCell {W : World} {m : Nat} {cs : List Value} {o : Nat} {c : Value} {xs : List (DataW H × List MemPlace)} {i : Nat} (hc : P.cellsOf t = 1) (h : DataW.trod enc P W 0 (fun _ => true) true m t ((cs.drop o).take (P.cellsOf t)) = xs[i]?) (hi : i < xs.length) (ho : cs[o]? = some c) :
    ∃ x, DataW.trod enc P W 0 (fun _ => true) true m t [c] = some x := by
  rw [hc, List.getElem?_eq_getElem hi] at h
  have : (cs.drop o).take 1 = [c] := by
    obtain ⟨h1, h2⟩ := List.getElem?_eq_some_iff.1 ho
    rw [List.drop_eq_getElem_cons h1, h2]; rfl
  rw [this] at h
  exact ⟨_, h⟩
theorem fieldInt {W : World} {m : Nat} {cs : List Value} {o : Nat} {c : Value} {xs : List (DataW H × List MemPlace)} {i : Nat} {k : IntKind} (ht : P.underlying t = some (.int k)) (hc : P.cellsOf t = 1) (h : DataW.trod enc P W 0 (fun _ => true) true m t ((cs.drop o).take (P.cellsOf t)) = xs[i]?) (hi : i < xs.length) (ho : cs[o]? = some c) :
    ∃ a : Int, c = .int k a ∧ k.min ≤ a ∧ a ≤ k.max := by
  obtain ⟨x, hx⟩ := fieldCell hc h hi ho
  obtain ⟨a, h1, _, wa⟩ := DataW.trod_int ht hx
  simp only [List.cons.injEq, and_true] at h1
  exact ⟨a, h1, by simpa [Lit.wf] using wa⟩
theorem fieldBool {W : World} {m : Nat} {cs : List Value} {o : Nat} {c : Value} {xs : List (DataW H × List MemPlace)} {i : Nat} (ht : P.underlying t = some .bool) (hc : P.cellsOf t = 1) (h : DataW.trod enc P W 0 (fun _ => true) true m t ((cs.drop o).take (P.cellsOf t)) = xs[i]?) (hi : i < xs.length) (ho : cs[o]? = some c) :
    ∃ a : Bool, c = .bool a := by
  obtain ⟨x, hx⟩ := fieldCell hc h hi ho
  obtain ⟨a, h1, _⟩ := DataW.trod_bool ht hx
  simp only [List.cons.injEq, and_true] at h1
  exact ⟨a, h1⟩
theorem retLaw {w w' : World} {v : Value} {e : Ending} (h : RetV w v e w') : e = .returned v ∧ Chg [] w w' := by
  cases e with
  | returned u => obtain ⟨h1, h2⟩ := h; subst h2; exact ⟨rfl, h1⟩
  | panicked ch => exact h.elim
  | outgrown => exact h.elim
/-- The arguments read as they did, behind a call that made new memory alone. -/
theorem argsStay (hl : laidOutB P = true) {W W' : World} (hb : Below W.heap.size W W') {sp : Nat → Bool} : ∀ {ts : List TypeId} {vs : List Value} {ds : List (DataW H)} {ps : List MemPlace}, (ts.all fun t => P.readableRec t && decide (t < P.types.size)) = true →
    DataW.TrodAll enc P W 0 (fun _ => true) true ts vs ds ps → (∀ x ∈ ps, x.block < W.heap.size) → (∀ x ∈ ps, sp x.block = true) → DataW.TrodAll enc P W' 0 sp true ts vs ds ps
  | [], [], [], _, _, h, _, _ => h
  | t :: ts, v :: vs, d :: ds, ps, hr, h, hlt, hsp => by
    obtain ⟨p, q, h1, h2, rfl⟩ := h
    simp only [List.all_cons, Bool.and_eq_true, decide_eq_true_eq] at hr
    exact ⟨p, q, WideElems.Trod_stays hl hr.1.1 hr.1.2 h1 (fun x hx => hb.same (hlt x (by simp [hx]))) (fun x hx => hsp x (by simp [hx])), argsStay hl hb (by simpa using hr.2) h2 (fun x hx => hlt x (by simp [hx])) (fun x hx => hsp x (by simp [hx])), rfl⟩
  | [], _ :: _, _, _, _, h, _, _ => by simp [DataW.TrodAll] at h
  | [], [], _ :: _, _, _, h, _, _ => by simp [DataW.TrodAll] at h
  | _ :: _, [], _, _, _, h, _, _ => by simp [DataW.TrodAll] at h
  | _ :: _, _ :: _, [], _, _, h, _, _ => by simp [DataW.TrodAll] at h
/-- A law's end: true is told, and every argument reads as it did. -/
theorem lawPost {f : Func} {s : ChangeSpec} {tb : TypeId} {apart fresh handsOn : Bool} {W W' : World} {args : Array Value} {ds gs : List (DataW H)} {before : List MemPlace} (hl : laidOutB P = true)
    (hW : DataW.Whole enc P f.params.toList s.vars apart W args.toList ds gs before) (hv : s.vars = []) (hs : s.fn H (ds ++ gs) = { results := [.lit (.bool true)], args := ds, vars := [] })
    (hrt : f.resultTypes = #[tb]) (hbt : P.underlying tb = some .bool) (hr : (f.params.toList.all fun t => P.readableRec t && decide (t < P.types.size)) = true) (hc : Chg [] W W') :
    s.post enc P f apart fresh handsOn false W args (.bool true) W' := by
  have hlt := hW.lt
  have hW0 := hW
  obtain ⟨p, q, hA, hV, rfl, hfz, hnd⟩ := hW
  rw [hv] at hV
  obtain ⟨rfl, rfl⟩ := trodVars_none hV
  have hb := hc.below
  refine ⟨ds, [], p ++ [], [], p, [], hW0, ?_, ?_, ?_, hb.frame _, fun h => by cases h⟩
  · rw [hs, hrt]; exact trodAll_mk1 (shut_bool hbt true)
  · rw [hs]; exact argsStay hl hb hr hA (fun x hx => hlt x (by simpa using hx)) (fun x hx => by simpa using hlt x (by simpa using hx))
  · rw [hs, hv]; rfl
end
end Go.V
