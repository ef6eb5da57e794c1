/- The interpreter's steps are the machine's: stores, rows that grow, rows that are made. Nothing here is about one program. -/
import Derived.Test.YtjjlcenmifcaeaaX5
namespace Go.X
open Go.RowKit Go.V

section
variable {T : Tab} {P : Program} {w w' : World} {S S' : List Nat} {φ φ' : Nat → RA} {w0 : World} {S0 : Ow} {F : AF T} {H : List (Ent T.U)} {F' : PF}
variable {ops : Array Oper} {Q : Exit → Act → World → Prop} {k n : Nat} {ds : List Deferred} {o : Oper}
theorem decStore_of {t : TypeId} {x y : Operand} (hd : dec ops k n F' = some o) (hop : o.op = .store t x y) (hdst : o.dst = none) : decStore ops k n F' = some (t, evD F' x, evD F' y) := by
  unfold decStore; rw [hd]; cases o; simp only at hop hdst; subst hop; subst hdst; rfl
theorem flat_one_cell : ∀ {as : List (AV T.U)} {vs : List Value}, as.all (flatAV T) = true → VRL T w S φ as vs → vs.all Value.oneCell' = true
  | [], [], _, _ => rfl
  | [], _ :: _, _, h => h.elim
  | _ :: _, [], _, h => h.elim
  | a :: r, v :: s, h, hv => by
    simp only [List.all_cons, Bool.and_eq_true] at h ⊢
    exact ⟨(flatAV_cells h.1 hv.1).2, flat_one_cell h.2 hv.2⟩
theorem fits_spec {t : TypeId} {o0 m : Nat} {a : AV T.U} (h : fits T P t o0 m a = true) : ∃ i, P.info? t = some i ∧ cellsOk T a = true ∧ (cellsA T a).length = i.size ∧ o0 + i.size ≤ m ∧ (cellsA T a).all (flatAV T) = true := by
  unfold fits at h
  split at h
  · rename_i i hi
    simp only [Bool.and_eq_true] at h
    exact ⟨i, hi, h.1, Nat.eq_of_beq_eq_true h.2.1, Nat.le_of_ble_eq_true h.2.2.1, h.2.2.2⟩
  · cases h
theorem stv_of {t : TypeId} {o0 m : Nat} {a : AV T.U} (h : fits T P t o0 m a = true) {v : Value} (hv : VR T w S φ a v) {c : Array Value} {p : Nat} (hm : p + m ≤ c.size) : stv P t c (p + o0) v = some (puts c (p + o0) v.cells.toList) := by
  obtain ⟨i, hi, h1, h2, h3, h4⟩ := fits_spec h
  have hc := cellsA_rel h1 hv
  have hl := hc.len T
  have ho := flat_one_cell h4 hc
  unfold stv
  rw [hi]
  simp only
  rw [show (Nat.beq v.cells.size i.size && (Nat.ble (p + o0 + i.size) c.size && v.cells.toList.all Value.oneCell')) = true from ?_]
  simp only [Bool.and_eq_true]
  refine ⟨?_, Nat.ble_eq_true_of_le (by omega), ho⟩
  have : v.cells.size = i.size := by rw [← h2, hl]; simp
  rw [this]; exact Nat.beq_refl _
theorem putsA_ids : ∀ {as cs : List (AV T.U)} {o0 : Nat}, ∀ i ∈ idsL (putsA T cs o0 as), i ∈ idsL cs ∨ i ∈ idsL as
  | [], cs, o0, i, h => .inl h
  | a :: r, cs, o0, i, h => by
    rw [putsA] at h
    rcases putsA_ids i h with h | h
    · obtain ⟨b, hb, hi⟩ := idsL_of h
      rcases List.mem_or_eq_of_mem_set hb with hb | hb
      · exact .inl (idsL_mem hb i hi)
      · subst hb; exact .inr (by rw [idsL]; exact List.mem_append.2 (.inl hi))
    · exact .inr (by rw [idsL]; exact List.mem_append.2 (.inr h))
/-! ### one element of a row -/
def putL {α : Type} (cs : List α) (o : Nat) : List α → List α
  | [] => cs
  | a :: r => putL (cs.set o a) (o + 1) r
theorem putC_eq : ∀ (l cs : List (Cell T.U)) (o0 : Nat), putC T cs o0 l = putL cs o0 l
  | [], _, _ => rfl
  | a :: r, cs, o0 => by rw [putC, putL, putC_eq r]
theorem puts_putL : ∀ (l : List Value) (c : Array Value) (o0 : Nat), (puts c o0 l).toList = putL c.toList o0 l
  | [], _, _ => rfl
  | v :: r, c, o0 => by rw [puts, putL, puts_putL r, Array.toList_setIfInBounds]
theorem putL_len {α : Type} : ∀ (l cs : List α) (o0 : Nat), (putL cs o0 l).length = cs.length
  | [], _, _ => rfl
  | a :: r, cs, o0 => by rw [putL, putL_len r, List.length_set]
theorem putL_take {α : Type} : ∀ (l cs : List α) (o0 m : Nat), (putL cs o0 l).take m = putL (cs.take m) o0 l
  | [], _, _, _ => rfl
  | a :: r, cs, o0, m => by rw [putL, putL, putL_take r, List.take_set]
theorem putL_app {α : Type} : ∀ (l pre mid post : List α) (o0 : Nat), o0 + l.length ≤ mid.length → putL (pre ++ mid ++ post) (pre.length + o0) l = pre ++ putL mid o0 l ++ post
  | [], _, _, _, _, _ => rfl
  | a :: r, pre, mid, post, o0, h => by
    simp only [List.length_cons] at h
    rw [putL, putL, List.append_assoc, List.set_append_right _ _ (by omega), Nat.add_sub_cancel_left, List.set_append_left _ _ (by omega), ← List.append_assoc, Nat.add_assoc]
    exact putL_app r pre _ post (o0 + 1) (by rw [List.length_set]; omega)
theorem flatMap_split {α β : Type} {f : α → List β} {sz : Nat} (hf : ∀ y, (f y).length = sz) {l : List α} {j : Nat} {x : α} (hj : l[j]? = some x) :
    l.flatMap f = (l.take j).flatMap f ++ f x ++ (l.drop (j + 1)).flatMap f ∧ ((l.take j).flatMap f).length = j * sz := by
  have hlt := (List.getElem?_eq_some_iff.1 hj).1
  have hx := (List.getElem?_eq_some_iff.1 hj).2
  constructor
  · conv => lhs; rw [← List.take_append_drop j l, List.drop_eq_getElem_cons hlt, hx]
    rw [List.flatMap_append, List.flatMap_cons, List.append_assoc]
  · rw [flatMap_lenT hf, List.length_take, Nat.min_eq_left (by omega)]
where
  flatMap_lenT {α β : Type} {f : α → List β} {sz : Nat} (hf : ∀ y, (f y).length = sz) : ∀ {l : List α}, (l.flatMap f).length = l.length * sz := by
    intro l
    induction l with
    | nil => simp
    | cons a r ih => rw [List.flatMap_cons, List.length_append, hf, ih, List.length_cons, Nat.succ_mul, Nat.add_comm]
theorem flatMap_set {α β : Type} {f : α → List β} {sz : Nat} (hf : ∀ y, (f y).length = sz) {xs : List α} {j c : Nat} {x y : α} {l : List β} (hj : xs[j]? = some x) (hy : f y = putL (f x) c l) (hc : c + l.length ≤ sz) : (xs.set j y).flatMap f = putL (xs.flatMap f) (j * sz + c) l := by
  have hlt := (List.getElem?_eq_some_iff.1 hj).1
  obtain ⟨h1, h2⟩ := flatMap_split hf hj
  have hj2 : (xs.set j y)[j]? = some y := List.getElem?_set_self hlt
  obtain ⟨h3, h4⟩ := flatMap_split hf hj2
  rw [h1, h3, ← h2, putL_app _ _ _ _ _ (by rw [hf]; exact hc), hy]
  rw [List.take_set_of_le (Nat.le_refl _), List.drop_set_of_lt (by omega)]
theorem CellsR.set {cs : List (Cell T.U)} {vs : List Value} (h : CellsR T w S cs vs) (j : Nat) {c : Cell T.U} {v : Value} (hc : CellR T w S c v) : CellsR T w S (cs.set j c) (vs.set j v) := by
  refine ⟨by rw [List.length_set, List.length_set, h.1], fun i c' v' h1 h2 => ?_⟩
  by_cases hij : j = i
  · subst hij
    have l1 := (List.getElem?_eq_some_iff.1 h1).1
    have l2 := (List.getElem?_eq_some_iff.1 h2).1
    rw [List.length_set] at l1 l2
    rw [List.getElem?_set_self l1] at h1; rw [List.getElem?_set_self l2] at h2
    simp only [Option.some.injEq] at h1 h2; subst h1; subst h2; exact hc
  · rw [List.getElem?_set_ne hij] at h1 h2; exact h.2 i c' v' h1 h2
theorem CellsR.put : ∀ {l : List (Cell T.U)} {vl : List Value} {cs : List (Cell T.U)} {vs : List Value} {p : Nat}, CellsR T w S l vl → CellsR T w S cs vs → CellsR T w S (putL cs p l) (putL vs p vl)
  | [], [], _, _, _, _, h => h
  | [], _ :: _, _, _, _, h, _ => by have := h.1; simp at this
  | _ :: _, [], _, _, _, h, _ => by have := h.1; simp at this
  | c :: r, v :: s, cs, vs, p, h, h' => by
    rw [putL, putL]
    exact CellsR.put (l := r) (vl := s) ⟨by have := h.1; simpa using this, fun j c' v' h1 h2 => h.2 (j + 1) c' v' (by simpa using h1) (by simpa using h2)⟩ (h'.set p (h.2 0 c v rfl rfl))
theorem cellsOf_rel : ∀ {as : List (AV T.U)} {l : List (Cell T.U)} {vs : List Value}, cellsOf T as = some l → VRL T w S φ as vs → CellsR T w S l vs
  | [], l, vs, h, hv => by
    simp only [cellsOf, Option.some.injEq] at h; subst h
    cases vs with
    | nil => exact ⟨rfl, fun j c v h => by simp at h⟩
    | cons _ _ => exact hv.elim
  | a :: r, l, vs, h, hv => by
    unfold cellsOf at h
    split at h
    · rename_i c l' hc hl
      simp only [Option.some.injEq] at h; subst h
      cases vs with
      | nil => exact hv.elim
      | cons v s =>
        have ih := cellsOf_rel hl hv.2
        have hcv : CellR T w S c v := by
          cases a with
          | cell c' => simp only [cellOf, Option.some.injEq] at hc; subst hc; exact hv.1
          | _ => cases hc
        refine ⟨by simp [ih.1], fun j c' v' h1 h2 => ?_⟩
        cases j with
        | zero => simp at h1 h2; subst h1; subst h2; exact hcv
        | succ j => exact ih.2 j c' v' (by simpa using h1) (by simpa using h2)
    · cases h
theorem store_eptr_wr {t : TypeId} {x y : Operand} (hd : dec ops k n F' = some o) (hop : o.op = .store t x y) (hdst : o.dst = none) {i sz j c : Nat} {e : TypeId} {ty : Ty} {xs : List (den T.U ty)} {a : AV T.U} (hx : aev T F x = some (.eptr i sz j c)) (hy : aev T F y = some a) (hi : H[i]? = some (.row e ty xs))
    (hf : fits T P t c (szT T ty) a = true) {l : List (Cell T.U)} (hl : cellsOf T (cellsA T a) = some l) {y' : den T.U ty} (hy' : unflat T ty (putC T (flat T ty (xs.getD j (dflt T ty))) c l) = some y')
    (h : Sim T w0 S0 ⟨F, H⟩ F' w S φ) (K : Kont P ops Q (k + 1) n ds w0 S0 (⟨F, H.set i (.row e ty (xs.set j y'))⟩ : St T)) : WR P ops Q k n ds F' w := by
  obtain ⟨X, h1, g, h2, rfl⟩ := aev_rel h.fr hx
  obtain ⟨v, h3, h4⟩ := aev_rel h.fr hy
  obtain ⟨hj, hsz⟩ := (aev_ok h hx).2 e ty xs hi
  subst hsz
  obtain ⟨g', carr, B, vals, a1, a2, a3, a4, a5, a6, a7, a8, a9, a10, a11, a12⟩ := row_at h hi (by omega)
  rw [h2] at a1; simp only [Option.some.injEq, Addr.mk.injEq, and_true] at a1; subst a1
  obtain ⟨ii, hii, f1, f2, f3, f4⟩ := fits_spec hf
  have hds := decStore_of hd hop hdst
  rw [evD_of h1, evD_of h3] at hds
  have hle : j * szT T ty + szT T ty ≤ xs.length * szT T ty := by rw [← Nat.succ_mul]; exact Nat.mul_le_mul_right _ hj
  have hle2 : xs.length * szT T ty ≤ carr.size := by rw [a5]; exact Nat.mul_le_mul_right _ a11
  have hst := stv_of hf h4 (c := carr) (p := 0 + j * szT T ty) (by omega)
  rw [Nat.add_assoc] at hst
  have hcr := cellsOf_rel hl (cellsA_rel f1 h4)
  refine WR.store a4 hds _ hst fun w' hb' hc => K _ _ ⟨S, φ, h.upd hi rfl hc ?_ ⟨B, (puts carr (0 + (j * szT T ty + c)) v.cells.toList).toList.take (xs.length * szT T ty), ?_, by rw [List.length_set]; exact a2, Nat.le_trans a10 hc.size, ?_, ?_⟩ ?_ ?_⟩
  · intro b hb; simp at hb; subst hb; exact ⟨_, .inl h2, rfl⟩
  · rw [h2, a2]
    exact Own.ofBlk hb' a9 a11 (by have := a12; unfold maxLen at this; omega) (by rw [puts_size]; exact a5) _ rfl
  · have hlen : c + l.length ≤ szT T ty := by
      have := hcr.1
      have hv := (cellsA_rel f1 h4).len T
      rw [this, ← hv, f2]; exact f3
    have hfm := flatMap_set (flat_len T ty) (getD_get (dflt T ty) hj) (l := l) (y := y') (c := c) (by rw [unflat_flat T hy', putC_eq]) hlen
    rw [hfm, puts_putL, putL_take, Nat.zero_add, a6]
    exact (CellsR.put hcr a7).chg T hc (by intro b hb; simp at hb; subst hb; exact a8) (fun b hb => .inl hb)
  · intro a ha
    rw [h2] at ha; simp only [Option.some.injEq] at ha; subst ha; exact a8
  · intro q hq; cases hq
  · intro e1 t1 zs he
    simp only [Ent.row.injEq] at he
    obtain ⟨rfl, rfl, hh⟩ := he
    have := eq_of_heq hh; subst this
    exact ⟨e, xs, rfl, by rw [List.length_set]; exact Nat.le_refl _⟩
/-! ### Blocks -/
theorem putL_cons {α : Type} : ∀ (us l : List α) (x : α) (o : Nat), putL (x :: l) (o + 1) us = x :: putL l o us
  | [], _, _, _ => rfl
  | u :: r, l, x, o => by rw [putL, putL, List.set_cons_succ, putL_cons r (l.set o u) x (o + 1)]
theorem putL_all {α : Type} : ∀ (us l : List α), us.length ≤ l.length → putL l 0 us = us ++ l.drop us.length
  | [], l, _ => rfl
  | u :: r, [], h => by simp at h
  | u :: r, x :: l, h => by
    rw [putL, List.set_cons_zero, putL_cons, putL_all r l (by simpa using h)]; rfl
theorem putL_mid {α : Type} (us pre l : List α) (o : Nat) (h : o + us.length ≤ l.length) : putL (pre ++ l) (pre.length + o) us = pre ++ putL l o us := by
  have := putL_app us pre l [] o h
  simpa using this
theorem VRL.putOnes : ∀ {as l l' : List (AV T.U)} {B us : List Value}, Go.X.putOnes T l as = some l' → BR T w S φ l B → VRL T w S φ as us → BR T w S φ l' (us ++ B.drop us.length) ∧ us.length ≤ B.length ∧ ∀ i ∈ idsL l', i ∈ idsL l ∨ i ∈ idsL as
  | [], l, l', B, us, h, h1, h2 => by
    simp only [Go.X.putOnes, Option.some.injEq] at h; subst h
    cases us with
    | nil => exact ⟨h1, Nat.zero_le _, fun i hi => .inl hi⟩
    | cons _ _ => exact h2.elim
  | b :: as, [], l', B, us, h, h1, h2 => by cases h
  | b :: as, a :: l, l', B, us, h, h1, h2 => by
    unfold Go.X.putOnes at h
    split at h
    · rename_i hn
      rw [Bool.and_eq_true] at hn
      split at h
      · rename_i s hs
        simp only [Option.some.injEq] at h; subst h
        obtain ⟨g1, g2⟩ := h1
        rw [expL, exp1_one T hn.1] at g1
        match B, us, g1, h2 with
        | v :: B, u :: us, g1, h2 =>
          obtain ⟨q1, q2, q3⟩ := VRL.putOnes hs ⟨g1.2, g2.2⟩ h2.2
          refine ⟨⟨?_, lenA1_one T hn.2, q1.2⟩, by simpa using q2, fun i hi => ?_⟩
          · rw [expL, exp1_one T hn.2]; exact ⟨h2.1, q1.1⟩
          · rw [idsL] at hi
            rcases List.mem_append.1 hi with hi | hi
            · exact .inr (by rw [idsL]; exact List.mem_append.2 (.inl hi))
            · rcases q3 i hi with hi | hi
              · exact .inl (by rw [idsL]; exact List.mem_append.2 (.inr hi))
              · exact .inr (by rw [idsL]; exact List.mem_append.2 (.inr hi))
        | [], _, g1, _ => exact g1.elim
        | _ :: _, [], _, h2 => exact h2.elim
      · cases h
    · cases h
/-- a part of a block turned, where the part tells so. -/
theorem BR.turn {f : List (AV T.U) → Option (List (AV T.U))} {cs cs' : List (AV T.U)} {o d : Nat} {vs us : List Value} {ex : List Nat} (h : turnB T f cs o = some cs') (hb : BR T w S φ cs vs)
    (hf : ∀ (l l' : List (AV T.U)) (B : List Value), f l = some l' → BR T w S φ l B → BR T w S φ l' (putL B d us) ∧ d + us.length ≤ B.length ∧ ∀ i ∈ idsL l', i ∈ idsL l ∨ i ∈ ex) :
    BR T w S φ cs' (putL vs (o + d) us) ∧ o + d + us.length ≤ vs.length ∧ ∀ i ∈ idsL cs', i ∈ idsL cs ∨ i ∈ ex := by
  obtain ⟨pre, l, l', h1, h2, h3, h4⟩ := turnB_spec h hb.2
  obtain ⟨h5, h6⟩ := BR.at hb h1 h4
  obtain ⟨g1, g2, g3⟩ := hf l l' _ h3 h5
  have hlv : o ≤ vs.length := by omega
  have htl : (vs.take o).length = o := by rw [List.length_take]; omega
  have hdl : (vs.drop o).length = vs.length - o := List.length_drop ..
  have e : putL vs (o + d) us = vs.take o ++ putL (vs.drop o) d us := by
    have := putL_mid us (vs.take o) (vs.drop o) d g2
    rw [List.take_append_drop, htl] at this
    exact this
  have hp : VRL T w S φ (expL T pre) (vs.take o) := by
    have := hb.1.take T o
    rwa [h1, expL_app, List.take_append_of_le_length (by omega), List.take_of_length_le (by omega)] at this
  have hlp : lensA T pre := by have := hb.2; rw [h1, lensA_app] at this; exact this.1
  refine ⟨⟨?_, ?_⟩, by omega, fun i hi => ?_⟩
  · rw [h2, expL_app, e]; exact VRL.app T hp g1.1
  · rw [h2, lensA_app]; exact ⟨hlp, g1.2⟩
  · rw [h2, idsL_app] at hi
    rw [h1, idsL_app]
    rcases List.mem_append.1 hi with hi | hi
    · exact .inl (List.mem_append.2 (.inl hi))
    · exact (g3 i hi).imp (fun h => List.mem_append.2 (.inr h)) id
theorem putArr_rel {t : Ty} {n : Nat} {xs : List (den T.U t)} {l l' : List (AV T.U)} {B us : List Value} (h : putArr T t n xs l = some l') (hb : BR T w S φ l B) (hl : xs.length = n) (hc : CellsR T w S (xs.flatMap (flat T t)) us) :
    BR T w S φ l' (putL B 0 us) ∧ 0 + us.length ≤ B.length ∧ ∀ i ∈ idsL l', i ∈ idsL l ∨ i ∈ ([] : List Nat) := by
  unfold putArr at h
  split at h
  · rename_i a r
    split at h
    · rename_i t' n' ys ha
      have := arrI_eq ha; subst this
      split at h
      · rename_i hn
        rw [Bool.and_eq_true] at hn
        obtain ⟨h1, h2⟩ := hn
        have h1 := Nat.eq_of_beq_eq_true h1; have h2 := Nat.eq_of_beq_eq_true h2
        simp only [Option.some.injEq] at h; subst h
        have hus : us.length = n * szT T t := by rw [← hc.1, flatMap_lenT (flat_len T t), hl]
        have he : (exp1 T (.arr t' n' ys)).length = us.length := by rw [exp1_len T hb.2.1, hus, wd, h1, h2]
        have hBl := hb.1.len T
        rw [expL, List.length_append, he] at hBl
        rw [putL_all us B (by omega)]
        refine ⟨⟨?_, hl, hb.2.2⟩, by omega, fun i hi => .inl hi⟩
        rw [expL]
        refine VRL.app T (VRL.cells.2 hc) ?_
        have := hb.1.drop T us.length
        rwa [expL, List.drop_append_of_le_length (by omega), List.drop_of_length_le (by omega)] at this
      · cases h
    · cases h
  · cases h
theorem putElem_rel {n sz k c : Nat} {l : List (Cell T.U)} {l1 l2 : List (AV T.U)} {B us : List Value} (h : putElem T n sz k c l l1 = some l2) (hb : BR T w S φ l1 B) (hk : k < n) (hc : CellsR T w S l us) :
    BR T w S φ l2 (putL B (k * sz + c) us) ∧ k * sz + c + us.length ≤ B.length ∧ ∀ i ∈ idsL l2, i ∈ idsL l1 ∨ i ∈ ([] : List Nat) := by
  unfold putElem at h
  split at h
  · rename_i a r
    split at h
    · rename_i ty n' xs ha
      have := arrI_eq ha; subst this
      split at h
      · rename_i hn
        rw [Bool.and_eq_true, Bool.and_eq_true] at hn
        obtain ⟨h1, h2, h3⟩ := hn
        have h1 := Nat.eq_of_beq_eq_true h1; have h2 := Nat.eq_of_beq_eq_true h2; have h3 := Nat.le_of_ble_eq_true h3
        subst h1; subst h2
        split at h
        · rename_i y hy
          simp only [Option.some.injEq] at h; subst h
          have hxl : xs.length = n' := hb.2.1
          have he : (exp1 T (.arr ty n' xs)).length = n' * szT T ty := by rw [exp1_len T hb.2.1]; rfl
          have hBl := hb.1.len T
          rw [expL, List.length_append, he] at hBl
          have hle : k * szT T ty + szT T ty ≤ n' * szT T ty := by rw [← Nat.succ_mul]; exact Nat.mul_le_mul_right _ hk
          have hul := hc.1
          have h4 : CellsR T w S (xs.flatMap (flat T ty)) (B.take (n' * szT T ty)) := by
            have := hb.1.take T (n' * szT T ty)
            rw [expL, List.take_append_of_le_length (by omega), List.take_of_length_le (by omega)] at this
            exact VRL.cells.1 this
          have h5 := CellsR.put (p := k * szT T ty + c) hc h4
          have hfm := flatMap_set (flat_len T ty) (getD_get (dflt T ty) (show k < xs.length by omega)) (l := l) (y := y) (c := c) (by rw [unflat_flat T hy, putC_eq]) h3
          rw [← hfm] at h5
          have htl : (B.take (n' * szT T ty)).length = n' * szT T ty := by rw [List.length_take]; omega
          have e : putL B (k * szT T ty + c) us = putL (B.take (n' * szT T ty)) (k * szT T ty + c) us ++ B.drop (n' * szT T ty) := by
            have := putL_app us [] (B.take (n' * szT T ty)) (B.drop (n' * szT T ty)) (k * szT T ty + c) (by omega)
            simpa using this
          refine ⟨⟨?_, by show (xs.set k y).length = n'; rw [List.length_set]; exact hxl, hb.2.2⟩, by omega, fun i hi => .inl hi⟩
          rw [expL, e]
          refine VRL.app T (VRL.cells.2 h5) ?_
          have := hb.1.drop T (n' * szT T ty)
          rwa [expL, List.drop_append_of_le_length (by omega), List.drop_of_length_le (by omega)] at this
        · cases h
      · cases h
    · cases h
  · cases h
theorem CellsR.app {cs ds : List (Cell T.U)} {vs us : List Value} (h : CellsR T w S cs vs) (h' : CellsR T w S ds us) : CellsR T w S (cs ++ ds) (vs ++ us) := by
  refine ⟨by simp [h.1, h'.1], fun j c v h1 h2 => ?_⟩
  rcases Nat.lt_or_ge j cs.length with hj | hj
  · rw [List.getElem?_append_left hj] at h1; rw [List.getElem?_append_left (by rw [← h.1]; exact hj)] at h2; exact h.2 j c v h1 h2
  · rw [List.getElem?_append_right hj] at h1; rw [List.getElem?_append_right (by rw [← h.1]; exact hj), ← h.1] at h2; exact h'.2 _ c v h1 h2
theorem rowOf_rel {ty : Ty} : ∀ {m : Nat} {cs : List (AV T.U)} {xs : List (den T.U ty)} {vs : List Value}, rowOf T ty m cs = some xs → VRL T w S φ cs vs → xs.length = m ∧ CellsR T w S (xs.flatMap (flat T ty)) vs
  | 0, [], xs, vs, h, hv => by
    simp only [rowOf, Option.some.injEq] at h; subst h
    cases vs with
    | nil => exact ⟨rfl, rfl, fun j c v h => by simp at h⟩
    | cons _ _ => exact hv.elim
  | 0, _ :: _, _, _, h, _ => by cases h
  | m + 1, cs, xs, vs, h, hv => by
    unfold rowOf at h
    split at h
    · rename_i l hl
      split at h
      · rename_i x rr hx hr
        simp only [Option.some.injEq] at h; subst h
        have h1 := cellsOf_rel hl (hv.take T (szT T ty))
        obtain ⟨h2, h3⟩ := rowOf_rel hr (hv.drop T (szT T ty))
        refine ⟨by rw [List.length_cons, h2], ?_⟩
        rw [List.flatMap_cons, unflat_flat T hx, ← List.take_append_drop (szT T ty) vs]
        exact h1.app h3
      · cases h
    · cases h
theorem putRow_rel {bs : List (AV T.U)} {l l' : List (AV T.U)} {B us : List Value} (h : putRow T bs l = some l') (hb : BR T w S φ l B) (hc : VRL T w S φ bs us) :
    BR T w S φ l' (putL B 0 us) ∧ 0 + us.length ≤ B.length ∧ ∀ i ∈ idsL l', i ∈ idsL l ∨ i ∈ ([] : List Nat) := by
  unfold putRow at h
  split at h
  · split at h
    · split at h
      · rename_i xs hxs
        obtain ⟨h1, h2⟩ := rowOf_rel hxs hc
        exact putArr_rel h hb h1 h2
      · cases h
    · cases h
  · cases h
theorem storeB_rel {t : TypeId} {cs cs' : List (AV T.U)} {o : Nat} {a : AV T.U} (h : storeB T P t cs o a = some cs') {vs : List Value} (hb : BR T w S φ cs vs) {v : Value} (hv : VR T w S φ a v) :
    BR T w S φ cs' (putL vs o v.cells.toList) ∧ (∀ i ∈ idsL cs', i ∈ idsL cs ∨ i ∈ a.ids) ∧ ∀ c : Array Value, c.size = vs.length → stv P t c o v = some (puts c o v.cells.toList) := by
  unfold storeB at h
  split at h
  · rename_i ty n xs ha
    have := arrI_eq ha; subst this
    obtain ⟨us, rfl, hl, hc⟩ := hv
    split at h
    · rename_i i hi
      split at h
      · rename_i hn
        have hn := Nat.eq_of_beq_eq_true hn
        obtain ⟨g1, g2, g3⟩ := BR.turn (d := 0) (us := us.toList) (ex := []) h hb fun l l' B hf hB => putArr_rel hf hB hl hc
        have hus : us.size = i.size := by have := hc.1; rw [flatMap_lenT (flat_len T ty), hl] at this; simp at this; omega
        refine ⟨g1, fun i hi => (g3 i hi).imp id (fun h => absurd h (by simp)), fun c hcs => ?_⟩
        unfold stv
        rw [hi]
        simp only
        rw [show (Nat.beq (Value.agg us).cells.size i.size && (Nat.ble (o + i.size) c.size && (Value.agg us).cells.toList.all Value.oneCell')) = true from ?_]
        simp only [Bool.and_eq_true]
        refine ⟨?_, Nat.ble_eq_true_of_le (by simp at g2; omega), ?_⟩
        · show Nat.beq us.size i.size = true
          rw [hus]; exact Nat.beq_refl _
        · show us.toList.all Value.oneCell' = true
          rw [List.all_eq_true]
          intro u hu
          obtain ⟨j, hj⟩ := List.mem_iff_getElem?.1 hu
          have hjl := (List.getElem?_eq_some_iff.1 hj).1
          obtain ⟨cc, hx⟩ : ∃ cc, (xs.flatMap (flat T ty))[j]? = some cc := ⟨_, List.getElem?_eq_getElem (by rw [hc.1]; exact hjl)⟩
          have hcr := hc.2 j cc u hx hj
          obtain ⟨ct, cx⟩ := cc
          have hcr : CR T w S ct cx u := hcr
          cases hcr <;> rfl
      · cases h
    · cases h
  · split at h
    · rename_i ha hf
      obtain ⟨ii, hii, f1, f2, f3, f4⟩ := fits_spec hf
      have hcr := cellsA_rel f1 hv
      have hbl := hb.1.len T
      obtain ⟨g1, g2, g3⟩ := BR.turn (d := 0) (us := v.cells.toList) (ex := idsL (cellsA T a)) h hb fun l l' B hf hB => by
        unfold putG at hf
        split at hf
        · rename_i r hr
          simp only [Option.some.injEq] at hf; subst hf
          obtain ⟨q1, q2, q3⟩ := VRL.putOnes hr hB hcr
          exact ⟨by rw [putL_all _ _ q2]; exact q1, by omega, q3⟩
        · obtain ⟨q1, q2, q3⟩ := putRow_rel hf hB hcr
          exact ⟨q1, q2, fun i hi => (q3 i hi).imp id fun h => by cases h⟩
      refine ⟨g1, fun i hi => (g3 i hi).imp id fun h => by rw [cellsA_ids f1] at h; exact h, fun c hcs => ?_⟩
      have hcl := hcr.len T
      have := stv_of hf hv (c := c) (p := o) (by rw [hcl]; omega)
      exact this
    · cases h
theorem store_blk_wr {t : TypeId} {x y : Operand} (hd : dec ops k n F' = some o) (hop : o.op = .store t x y) (hdst : o.dst = none) {i g p : Nat} {e : TypeId} {cs cs' : List (AV T.U)} {a : AV T.U} (h1 : ev F' x = some (.pointer (some ⟨g, p, none⟩))) (h2 : (φ i).ad = some ⟨g, 0, none⟩) (hy : aev T F y = some a) (hi : H[i]? = some (.blk e cs))
    (hst : ∀ (vs : List Value) (v : Value), BR T w S φ cs vs → VR T w S φ a v → BR T w S φ cs' (putL vs p v.cells.toList) ∧ (∀ j ∈ idsL cs', j ∈ idsL cs ∨ j ∈ a.ids) ∧ ∀ c : Array Value, c.size = vs.length → stv P t c p v = some (puts c p v.cells.toList))
    (h : Sim T w0 S0 ⟨F, H⟩ F' w S φ) (K : Kont P ops Q (k + 1) n ds w0 S0 (⟨F, H.set i (.blk e cs')⟩ : St T)) : WR P ops Q k n ds F' w := by
  obtain ⟨v, h3, h4⟩ := aev_rel h.fr hy
  obtain ⟨g', c, h5, hb, h7, h8⟩ := h.ents i _ hi
  rw [h2] at h5; simp only [Option.some.injEq, Addr.mk.injEq, and_true] at h5; subst h5
  have hok := aev_ok h hy
  have hds := decStore_of hd hop hdst
  rw [evD_of h1, evD_of h3] at hds
  obtain ⟨q1, q2, q3⟩ := hst _ v h8 h4
  refine WR.store hb hds _ (q3 c (by simp)) fun w' hb' hc => K _ _ ⟨S, φ, h.upd hi rfl hc ?_ ⟨g, _, h2, hb', h7, ?_⟩ ?_ ?_⟩
  · intro b hb; simp at hb; subst hb; exact ⟨_, .inl h2, rfl⟩
  · rw [puts_putL]
    exact q1.chg T hc (by intro b hb; simp at hb; subst hb; exact h7) (fun b hb => .inl hb)
  · intro q hq
    rw [Ent.cellIds] at hq
    rcases q2 q hq with hq | hq
    · exact h.eids _ _ hi q hq
    · exact hok.1 q hq
  · intro e1 t1 xs he; cases he
/-! ### Rows that grow -/
theorem CR.oneCell {t : Ty} {x : den T.U t} {v : Value} (h : CR T w S t x v) : v.oneCell' = true := by cases h <;> rfl
theorem CellsR.one {cs : List (Cell T.U)} {vs : List Value} (h : CellsR T w S cs vs) : ∀ u ∈ vs, u.oneCell' = true := by
  intro u hu
  obtain ⟨j, hj⟩ := List.mem_iff_getElem?.1 hu
  have hl := (List.getElem?_eq_some_iff.1 hj).1
  have := h.2 j (cs[j]'(by rw [h.1]; exact hl)) u (List.getElem?_eq_getElem _) hj
  exact CR.oneCell this
theorem flatMap_len' {α β : Type} {f : α → List β} {sz : Nat} (hf : ∀ y, (f y).length = sz) (l : List α) : (l.flatMap f).length = l.length * sz := flatMap_split.flatMap_lenT hf
/-- a list that stays, as a row of cells. -/
theorem list_row {e : Ty} {xs : List (den T.U e)} {ad : Option Addr} {n cap : Nat} (h : CR T w S (.list e) xs (.slice ad n cap)) : n = xs.length ∧ (ad = none → n = 0 ∧ cap = 0) ∧ ∃ vals, Rg w ad vals ∧ CellsR T w S (xs.flatMap (flat T e)) vals := by
  generalize hv : Value.slice ad n cap = v at h
  cases h with
  | list _ _ ad' cap' u hcap hnil had hcell hrel =>
    simp only [Value.slice.injEq] at hv
    obtain ⟨rfl, rfl, rfl⟩ := hv
    refine ⟨rfl, hnil, ?_⟩
    by_cases hx : xs = []
    · subst hx; exact ⟨[], Rg.nil _ _, rfl, fun j c v h => by simp at h⟩
    obtain ⟨ha, _, _⟩ := had hx
    have key : ∀ (l : List (den T.U e)) (s : Nat), (∀ k x, l[k]? = some x → xs[s + k]? = some x) →
        ∃ vals : List Value, CellsR T w S (l.flatMap (flat T e)) vals ∧ ∀ j v, vals[j]? = some v → w.cell? ⟨bk ad, of ad + (s * szT T e + j), none⟩ = some v := by
      intro l
      induction l with
      | nil => intro s _; exact ⟨[], ⟨rfl, fun j c v h => by simp at h⟩, fun j v h => by simp at h⟩
      | cons x r ih =>
        intro s hs
        obtain ⟨vals, h1, h2⟩ := ih (s + 1) (fun k y hk => by rw [show s + 1 + k = s + (k + 1) by omega]; exact hs (k + 1) y (by simpa using hk))
        have h0 : xs[s]? = some x := by simpa using hs 0 x rfl
        have hlen : ((List.range (szT T e)).map (u s)).length = szT T e := by simp
        refine ⟨(List.range (szT T e)).map (u s) ++ vals, ?_, ?_⟩
        · rw [List.flatMap_cons]
          refine CellsR.app ⟨by rw [flat_len, hlen], fun j c v hc hv => ?_⟩ h1
          have hj : j < szT T e := by have := (List.getElem?_eq_some_iff.1 hv).1; rw [hlen] at this; exact this
          rw [List.getElem?_map, List.getElem?_range hj] at hv
          simp only [Option.map_some, Option.some.injEq] at hv; subst hv
          exact hrel s j c (by rw [h0]; exact congrArg some hc)
        · intro j v hv
          rcases Nat.lt_or_ge j (szT T e) with hj | hj
          · rw [List.getElem?_append_left (by rw [hlen]; exact hj), List.getElem?_map, List.getElem?_range hj] at hv
            simp only [Option.map_some, Option.some.injEq] at hv; subst hv
            have hc : (flat T e x)[j]? = some ((flat T e x)[j]'(by rw [flat_len]; exact hj)) := List.getElem?_eq_getElem _
            exact hcell s j _ (by rw [h0]; exact congrArg some hc)
          · rw [List.getElem?_append_right (by rw [hlen]; exact hj), hlen] at hv
            have := h2 _ v hv
            rwa [show (s + 1) * szT T e + (j - szT T e) = s * szT T e + j by rw [Nat.succ_mul]; omega] at this
    obtain ⟨vals, h1, h2⟩ := key xs 0 (fun k x hk => by rw [Nat.zero_add]; exact hk)
    refine ⟨vals, fun j v hv => ⟨ha, ?_⟩, h1⟩
    have := h2 j v hv
    rwa [Nat.zero_mul, Nat.zero_add] at this
theorem as_list {t : Ty} {c : Cell T.U} {xs : List (den T.U t)} (h : c.as (.list t) = some xs) : c = ⟨.list t, xs⟩ := Cell.as_eq h
/-- what is put behind: where it lies. -/
theorem rowIn_rel {ty : Ty} {a : AV T.U} {xs : List (den T.U ty)} (ha : appA.rowIn T ty H a = some xs) (h : Sim T w0 S0 ⟨F, H⟩ F' w S φ) {v : Value} (hv : VR T w S φ a v) :
    ∃ ad cap vals, v = .slice ad xs.length cap ∧ (ad = none → xs.length = 0 ∧ cap = 0) ∧ Rg w ad vals ∧ CellsR T w S (xs.flatMap (flat T ty)) vals := by
  unfold appA.rowIn at ha
  split at ha
  · rename_i c
    split at ha
    · rename_i ys hc
      have ha : ys = xs := Option.some.inj ha
      subst ha
      have := as_list hc; subst this
      have hv : CR T w S (.list ty) ys v := hv
      have hv' := hv
      cases hv' with
      | list _ _ ad cap u hcap hnil had hcell hrel =>
        obtain ⟨_, h2, vals, h3, h4⟩ := list_row hv
        exact ⟨ad, cap, vals, rfl, h2, h3, h4⟩
    · cases ha
  · rename_i i
    split at ha
    · rename_i e ty' ys hi
      split at ha
      · rename_i ht
        subst ht
        simp only [Option.some.injEq] at ha; subst ha
        obtain ⟨B, vals, h1, h2, _, h4, _⟩ := h.ents i _ hi
        rw [VR] at hv; subst hv
        rw [h2] at h1 ⊢
        exact ⟨_, _, vals, rfl, h1.nil0, h1.rg, h4⟩
      · cases ha
    · cases ha
  · simp only [Option.some.injEq] at ha; subst ha
    rw [VR] at hv; subst hv
    exact ⟨none, 0, [], rfl, fun _ => ⟨rfl, rfl⟩, Rg.nil _ _, rfl, fun j c v h => by simp at h⟩
  · cases ha
theorem flatMap_part {α β : Type} {f : α → List β} {sz : Nat} (hf : ∀ y, (f y).length = sz) (xs : List α) (o n : Nat) : ((xs.drop o).take n).flatMap f = ((xs.flatMap f).drop (o * sz)).take (n * sz) := by
  have key : ∀ (l : List α) (k : Nat), (l.take k).flatMap f = (l.flatMap f).take (k * sz) ∧ (l.drop k).flatMap f = (l.flatMap f).drop (k * sz) := by
    intro l
    induction l with
    | nil => intro k; simp
    | cons a r ih =>
      intro k
      cases k with
      | zero => simp
      | succ k =>
        obtain ⟨i1, i2⟩ := ih k
        have e : (k + 1) * sz = (f a).length + k * sz := by rw [hf, Nat.succ_mul, Nat.add_comm]
        refine ⟨?_, ?_⟩
        · rw [List.take_succ_cons, List.flatMap_cons, List.flatMap_cons, i1, e, List.take_append, List.take_of_length_le (Nat.le_add_right _ _), Nat.add_sub_cancel_left]
        · rw [List.drop_succ_cons, List.flatMap_cons, i2, e, List.drop_append]
          simp
  rw [(key _ n).1, (key _ o).2]
theorem rowX_rel {R : Type} {r : R} {ty : Ty} {a : AV T.U} {K : List (den T.U ty) → Option R} (ha : appA.rowX T ty H a K = some r) (h : Sim T w0 S0 ⟨F, H⟩ F' w S φ) {v : Value} (hv : VR T w S φ a v) :
    ∃ xs, K xs = some r ∧ ∃ ad cap vals, v = .slice ad xs.length cap ∧ (ad = none → xs.length = 0 ∧ cap = 0) ∧ Rg w ad vals ∧ CellsR T w S (xs.flatMap (flat T ty)) vals := by
  unfold appA.rowX at ha
  split at ha
  · rename_i ys hy; exact ⟨ys, ha, rowIn_rel hy h hv⟩
  · rename_i hy
    clear hy
    split at ha <;> try (cases ha; done)
    rename_i i sz o n
    split at ha <;> try (cases ha; done)
    rename_i e ty' xs hi
    split at ha <;> try (cases ha; done)
    rename_i hsz
    have := Nat.eq_of_beq_eq_true hsz; subst this
    split at ha <;> try (cases ha; done)
    rename_i ht
    subst ht
    split at ha <;> try (cases ha; done)
    rename_i hle
    refine ⟨_, ha, ?_⟩
    obtain ⟨B, vals, h1, h2, _, h4, _⟩ := h.ents i _ hi
    obtain ⟨ad, rfl, hcap, hn, hnil, _⟩ := hv
    have hlen : (List.take n (List.drop o xs)).length = n := by rw [List.length_take, List.length_drop]; omega
    refine ⟨ad, (φ i).cap - o, (vals.drop (o * szT T ty')).take (n * szT T ty'), ?_, ?_, ?_, ?_, ?_⟩
    · show Value.slice ad n _ = Value.slice ad (List.take n (List.drop o xs)).length _
      rw [hlen]
    · intro hn'; show (List.take n (List.drop o xs)).length = 0 ∧ _; rw [hlen]; exact hnil hn'
    · intro j u hj
      rcases hn with rfl | ⟨g, hg1, hg2⟩
      · simp at hj
      · rw [List.getElem?_take] at hj
        split at hj <;> try (cases hj; done)
        rw [List.getElem?_drop] at hj
        obtain ⟨_, q⟩ := h1.rg _ _ hj
        subst hg2
        rw [hg1] at q
        refine ⟨rfl, ?_⟩
        simp only [bk, of, Nat.zero_add] at q ⊢
        exact q
    · rw [flatMap_part (flat_len T ty'), List.length_take, List.length_drop, List.length_take, List.length_drop, h4.1]
    · intro j c v hc hv
      rw [flatMap_part (flat_len T ty'), List.getElem?_take] at hc
      rw [List.getElem?_take] at hv
      split at hc <;> try (cases hc; done)
      rename_i hj
      rw [if_pos hj] at hv
      rw [List.getElem?_drop] at hc hv
      exact h4.2 _ _ _ hc hv
theorem decApp_of {x y : Operand} {t : TypeId} {c : Call} (hd : dec ops k n F' = some o) (hop : o.op = .call c) (hc : c.callee = .builtin .append) (ha : c.args.toList = [x, y]) (hat : c.argTypes.toList = [t, t]) : decApp ops k n F' = some (o.dst, t, evD F' x, evD F' y) := by
  unfold decApp; rw [hd]; cases o; cases c; simp only at hop hc ha hat; subst hop; subst hc
  simp only [ha, hat, Nat.beq_refl]
theorem append_wr {R : Type} {r : R} {x y : Operand} {t : TypeId} {c : Call} (hd : dec ops k n F' = some o) (hop : o.op = .call c) (hc : c.callee = .builtin .append) (ha : c.args.toList = [x, y]) (hat : c.argTypes.toList = [t, t]) {ty : Ty} {s a : AV T.U} (hx : aev T F x = some s) (hy : aev T F y = some a)
    {K0 : AV T.U → List (Ent T.U) → Option R} (hK0 : appA T P ty t H s a K0 = some r) (h : Sim T w0 S0 ⟨F, H⟩ F' w S φ) (K : ∀ b H1, K0 b H1 = some r → Kont P ops Q (k + 1) n ds w0 S0 (⟨updA T F o.dst b, H1⟩ : St T)) : WR P ops Q k n ds F' w := by
  obtain ⟨X, h1, h2⟩ := aev_rel h.fr hx
  obtain ⟨Y, h3, h4⟩ := aev_rel h.fr hy
  unfold appA at hK0
  split at hK0
  · rename_i et sz by_ zc he
    split at hK0
    · rename_i hb
      simp only [Bool.and_eq_true] at hb
      have hsz := Nat.eq_of_beq_eq_true hb.1; subst hsz
      have hs1 := Nat.le_of_ble_eq_true hb.2.1
      have hby := Nat.le_of_ble_eq_true hb.2.2.1
      have hek := hb.2.2.2
      split at hK0
      · rename_i xs hxs
        obtain ⟨ys, hK1, xd, xcap, news, rfl, hnil, hrg, hcr⟩ := rowX_rel hK0 h h4
        obtain ⟨hle, hK⟩ := iteOpt hK1
        clear hK0 hK1
        have hda := decApp_of hd hop hc ha hat
        rw [evD_of h1, evD_of h3] at hda
        have hl : news.length = ys.length * szT T ty := by rw [← hcr.1, flatMap_len' (flat_len T ty)]
        have hle' : xs.length + ys.length ≤ 140737488355328 := Nat.le_trans (Nat.le_mul_of_pos_right _ hby) hle
        -- what is owned ahead
        have hown : ∃ ad cap B cs, X = .slice ad xs.length cap ∧ Own w B et (szT T ty) ad xs.length cap cs ∧ B ≤ w.heap.size ∧ CellsR T w S (xs.flatMap (flat T ty)) cs ∧ (∀ b ∈ blks ad, b ∈ S) ∧ (∀ b ∈ blks ad, b ∈ S0.chg ∨ w0.heap.size ≤ b) ∧
            (∀ (j : Nat) (e : Ent T.U), (appA.goneA T H s)[j]? = some e → e.live = true → ∀ q, At (φ j) q → q.block ∉ blks ad) ∧ Sim T w0 S0 ⟨F, appA.goneA T H s⟩ F' w S φ ∧ (appA.goneA T H s).length = H.length := by
          unfold appA.rowIn at hxs
          split at hxs
          · cases hek
          · rename_i i
            split at hxs
            · rename_i e' ty' zs hi
              split at hxs
              · rename_i ht
                subst ht
                have hxs : zs = xs := Option.some.inj hxs
                subst hxs
                obtain ⟨B, vals, q1, q2, q3, q4, q5⟩ := h.ents i _ hi
                have hee : e' = et := by
                  unfold appA.eOk at hek
                  have hi' : H[i]? = some (.row e' ty' zs) := hi
                  simp only [hi'] at hek
                  exact Nat.eq_of_beq_eq_true hek
                subst hee
                rw [VR] at h2; subst h2
                rw [q2] at q1 ⊢
                refine ⟨_, _, B, vals, rfl, q1, q3, q4, ?_, ?_, ?_, h.drop i, by simp [appA.goneA]⟩
                · intro b hb
                  unfold blks at hb
                  split at hb
                  · rename_i a hq; simp at hb; subst hb; exact q5 a hq
                  · cases hb
                · intro b hb
                  unfold blks at hb
                  split at hb
                  · rename_i a hq; simp at hb; subst hb; exact (h.lives i _ hi rfl a (.inl hq)).2
                  · cases hb
                · intro j f hf hl q hq hm
                  have hji : j ≠ i := by
                    intro e; subst e
                    have hlt : j < H.length := (List.getElem?_eq_some_iff.1 hi).1
                    rw [show appA.goneA T H (.own j) = H.set j .gone from rfl, List.getElem?_set_self hlt] at hf
                    simp only [Option.some.injEq] at hf; subst hf; cases hl
                  rw [show appA.goneA T H (.own i) = H.set i .gone from rfl, List.getElem?_set_ne (Ne.symm hji)] at hf
                  unfold blks at hm
                  split at hm
                  · rename_i a ha'; simp at hm
                    exact h.apart j i f _ hf hi hl rfl hji q a hq (.inl ha') hm
                  · cases hm
              · cases hxs
            · cases hxs
          · have hxs : [] = xs := Option.some.inj hxs
            subst hxs
            rw [VR] at h2; subst h2
            exact ⟨none, 0, w.heap.size, [], rfl, Own.nil _ _ _ _, Nat.le_refl _, ⟨rfl, fun j c v h => (by simp at h)⟩, fun b hb => (by cases hb), fun b hb => (by cases hb), fun j e _ _ q _ => (by simp [blks]), h, rfl⟩
          · cases hxs
        obtain ⟨ad, cap, B, cs, rfl, o1, o2, o3, o4, oc, o5, o6, o7⟩ := hown
        refine WR.append o1 hrg hda he hl hs1 hcr.one o2 (by omega) hle hnil fun ad' cap' w' g1 g2 g3 => ?_
        have hnl : (xs ++ ys).length = xs.length + ys.length := List.length_append
        have hS1 : ∃ S1 : List Nat, (∀ b ∈ S, b ∈ S1) ∧ (∀ b ∈ S1, b ∈ S ∨ (w.heap.size ≤ b ∧ b < w'.heap.size)) ∧ (∀ q, ad' = some q → q.block ∈ S1) ∧ ∀ q, ad' = some q → w.heap.size ≤ q.block ∨ q.block ∈ blks ad := by
          cases ad' with
          | none => exact ⟨S, fun _ h => h, fun _ h => .inl h, fun q h => (by cases h), fun q h => (by cases h)⟩
          | some q =>
            have hlt : q.block < w'.heap.size := by
              rcases g1.ge with hn | hn
              · cases hn
              · exact hn.2
            have hor : w.heap.size ≤ q.block ∨ q.block ∈ blks ad := by
              rcases g3 with g3 | g3
              · right; rw [← g3]; simp [blks]
              · left; exact g3
            refine ⟨q.block :: S, fun b hb => List.mem_cons_of_mem _ hb, fun b hb => ?_, fun q' h => by simp only [Option.some.injEq] at h; subst h; simp, fun q' h => by simp only [Option.some.injEq] at h; subst h; exact hor⟩
            rcases List.mem_cons.1 hb with rfl | hb
            · rcases hor with hor | hor
              · exact .inr ⟨hor, hlt⟩
              · exact .inl (o4 _ hor)
            · exact .inl hb
        obtain ⟨S1, s1, s2, s3, s4⟩ := hS1
        have hCr : CellsR T w' S1 ((xs ++ ys).flatMap (flat T ty)) (cs ++ news) := by
          rw [List.flatMap_append]; exact (o3.app hcr).chg T g2 o4 (fun b hb => (s2 b hb).imp id And.left)
        have hadd := o6.addG g2 o4 oc o5 s1 s2 (r := ⟨ad', xs.length + ys.length, cap', []⟩) (fun q hq => s4 q (at_ad hq)) (fun q hq => s3 q (at_ad hq)) (e := .row et ty (xs ++ ys))
          ⟨B, cs ++ news, by rw [setR_eq]; exact g1, by rw [setR_eq, hnl], Nat.le_trans o2 g2.size, hCr, fun q hq => by rw [setR_eq] at hq; exact s3 q hq⟩ (by intro q hq; cases hq)
        rw [o7] at hadd
        refine K _ _ hK _ _ ⟨_, _, hadd.slot (a := .own H.length) (by rw [VR, setR_eq]) ⟨?_, trivial⟩⟩
        intro q hq; simp [AV.ids] at hq; subst hq; rw [List.length_append, o7]; simp
      · cases hK0
    · cases hK0
  · cases hK0
/-! ### Rows that are made -/
theorem decMake_of {t : TypeId} {x y : Operand} (hd : dec ops k n F' = some o) (hop : o.op = .makeSlice t x y) : decMake ops k n F' = some (o.dst, t, evD F' x, evD F' y) := by
  unfold decMake; rw [hd]; cases o; simp only at hop; subst hop; rfl
theorem replicate_at {α β : Type} {f : α → List β} {sz : Nat} {x : α} (hx : (f x).length = sz) : ∀ (m j : Nat), j < m * sz → ((List.replicate m x).flatMap f)[j]? = (f x)[j % sz]?
  | 0, j, h => by simp at h
  | m + 1, j, h => by
    rw [List.replicate_succ, List.flatMap_cons]
    rcases Nat.lt_or_ge j sz with hj | hj
    · rw [List.getElem?_append_left (by omega), Nat.mod_eq_of_lt hj]
    · rw [List.getElem?_append_right (by omega), hx, replicate_at hx m (j - sz) (by rw [Nat.succ_mul] at h; omega)]
      congr 1
      exact (Nat.mod_eq_sub_mod hj).symm
theorem cellsOf_ofV1 {l : List Value} {cs : List (Cell T.U)} (h : cellsOf T (l.map (ofV1 T)) = some cs) : CellsR T w S cs l := cellsOf_rel (φ := fun _ => ⟨none, 0, 0, []⟩) h (ofV1_relL T l)
theorem make_wr {R : Type} {r : R} {x y : Operand} {t : TypeId} (hd : dec ops k n F' = some o) (hop : o.op = .makeSlice t x y) {ty : Ty} {k1 k2 : IntKind} {l c : Int} (hx : aev T F x = some (cI T k1 l)) (hy : aev T F y = some (cI T k2 c))
    {K0 : AV T.U → List (Ent T.U) → Option R} (hK0 : makeA T P ty t H l c K0 = some r) (h : Sim T w0 S0 ⟨F, H⟩ F' w S φ) (K : ∀ b H1, K0 b H1 = some r → Kont P ops Q (k + 1) n ds w0 S0 (⟨updA T F o.dst b, H1⟩ : St T)) : WR P ops Q k n ds F' w := by
  obtain ⟨X, h1, h2⟩ := aev_rel h.fr hx
  obtain ⟨Y, h3, h4⟩ := aev_rel h.fr hy
  have e1 := cint_rel h2; have e2 := cint_rel h4; subst e1; subst e2
  unfold makeA at hK0
  split at hK0
  · rename_i e sz by_ zc he
    split at hK0
    · rename_i z hsz hz
      have hsz := Nat.eq_of_beq_eq_true hsz; subst hsz
      split at hK0
      · rename_i x0 hx0
        obtain ⟨⟨g1, g2, g3, g4⟩, hK⟩ := iteOpt hK0
        have hdm := decMake_of hd hop
        rw [evD_of h1, evD_of h3] at hdm
        obtain ⟨i, zv, _, _, _, _, _, _, hzs⟩ := eInfo_spec he
        refine WR.make hdm he l.toNat c.toNat (by omega) (by omega) (by omega) g3 (by omega) fun g w' hN => ?_
        have hown := Own.made (m := l.toNat) (m' := c.toNat) hN (by omega) (by omega)
        have hS : ∀ b ∈ g :: S, b ∈ S ∨ w.heap.size ≤ b := by
          intro b hb
          rcases List.mem_cons.1 hb with rfl | hb
          · exact .inr hN.fresh
          · exact .inl hb
        have hz' : CellsR T w' (g :: S) (flat T ty x0) zc.toList := by rw [unflat_flat T hx0]; exact cellsOf_ofV1 hz
        have hc : CellsR T w' (g :: S) ((List.replicate l.toNat x0).flatMap (flat T ty)) ((madeCells zc (c.toNat * szT T ty)).toList.take (l.toNat * szT T ty)) := by
          have hml : (madeCells zc (c.toNat * szT T ty)).toList.length = c.toNat * szT T ty := by rw [Array.length_toList, size_madeCells]
          have hlc : l.toNat * szT T ty ≤ c.toNat * szT T ty := Nat.mul_le_mul_right _ (by omega)
          refine ⟨by rw [flatMap_len' (flat_len T ty), List.length_replicate, List.length_take, hml, Nat.min_eq_left hlc], fun j c v h1 h2 => ?_⟩
          have hj := (List.getElem?_eq_some_iff.1 h1).1
          rw [flatMap_len' (flat_len T ty), List.length_replicate] at hj
          rw [replicate_at (flat_len T ty x0) _ _ hj] at h1
          rw [List.getElem?_take, if_pos hj] at h2
          refine hz'.2 _ c v h1 ?_
          have hpos : 0 < szT T ty := by
            rcases Nat.eq_zero_or_pos (szT T ty) with h0 | h0
            · rw [h0] at hj; omega
            · exact h0
          rw [← hzs] at hpos
          unfold madeCells at h2
          simp only [Array.toList_map, Array.toList_range, List.getElem?_map] at h2
          rw [List.getElem?_range (by omega)] at h2
          simp only [Option.map_some, Option.some.injEq] at h2
          subst h2
          rw [← hzs, Array.getElem?_toList, Array.getElem?_eq_getElem (Nat.mod_lt _ hpos)]
          congr 1
          rw [getElem!_pos zc _ (Nat.mod_lt _ hpos)]
        have hadd := h.add (r := ⟨some ⟨g, 0, none⟩, l.toNat, c.toNat, []⟩) hN.chg hN.fresh hN.blk.lt (fun a ha => at_new ha) (e := .row e ty (List.replicate l.toNat x0))
          ⟨w.heap.size, _, by rw [setR_eq]; exact hown, by rw [setR_eq, List.length_replicate], hN.chg.size, hc, fun a ha => by rw [setR_eq] at ha; simp only [Option.some.injEq] at ha; subst ha; simp⟩ (by intro j hj; cases hj)
        refine K _ _ hK _ _ ⟨_, _, hadd.slot (a := .own H.length) (by rw [VR, setR_eq]) ⟨by intro i hi; simp [AV.ids] at hi; subst hi; simp, trivial⟩⟩
      · cases hK0
    · cases hK0
  · cases hK0
theorem decBs_of {t : TypeId} {len : Nat} {ps : Array (Nat × Operand)} {e : TypeId} {c : Array Value} (hd : dec ops k n F' = some o) (hop : o.op = .buildSlice t len ps) (hb : bsCells P t len (ps.toList.map fun p => (p.1, evD F' p.2)) = some (e, c)) : decBs P ops k n F' = some (o.dst, len, e, c) := by
  unfold decBs; rw [hd]; cases o; simp only at hop; subst hop
  have : (ps.map fun p => (p.1, evD F' p.2)).toList = ps.toList.map fun p => (p.1, evD F' p.2) := by simp
  simp only [this, hb]
theorem bslice_wr {t : TypeId} {len : Nat} {ps : Array (Nat × Operand)} (hd : dec ops k n F' = some o) (hop : o.op = .buildSlice t len ps) {ty : Ty} {l : List (Nat × AV T.U)} (hl : partsA T F ps.toList = some l) {e : TypeId} {xs : List (den T.U ty)} (hb : buildA T P ty t len l = some (e, xs))
    (h : Sim T w0 S0 ⟨F, H⟩ F' w S φ) (K : Kont P ops Q (k + 1) n ds w0 S0 (⟨updA T F o.dst (.own H.length), H ++ [.row e ty xs]⟩ : St T)) : WR P ops Q k n ds F' w := by
  unfold buildA at hb
  split at hb
  · rename_i et sz by_ zc he
    split at hb
    · rename_i hok
      simp only [Bool.and_eq_true] at hok
      have hsz := Nat.eq_of_beq_eq_true hok.1; subst hsz
      have hs1 := Nat.le_of_ble_eq_true hok.2.1
      have h16 := Nat.le_of_ble_eq_true hok.2.2
      split at hb
      · rename_i cs hcs
        split at hb
        · rename_i zs hzs
          simp only [Option.some.injEq, Prod.mk.injEq] at hb
          obtain ⟨rfl, rfl⟩ := hb
          obtain ⟨i, zv, hu, hin, hzv, hsi, _, hzc, hzl⟩ := eInfo_spec he
          subst hzc
          obtain ⟨e1, e2⟩ := partsA_rel h.fr hl
          -- the cells ahead of the parts
          have hz0 : VRL T w S φ ((List.range (len * szT T ty)).map fun j => ofV1 T (zv.cells[j % szT T ty]!)) ((Array.range (len * i.size)).map (zv.cells[· % zv.cells.size]!)).toList := by
            rw [hsi, hzl, Array.toList_map, Array.toList_range]
            generalize List.range (len * szT T ty) = rr
            induction rr with
            | nil => trivial
            | cons a r ih => exact ⟨ofV1_rel T _, ih⟩
          obtain ⟨c', g1, g2⟩ := fillA_run hz0 e1 e2 hcs
          obtain ⟨r1, r2⟩ := rowOf_rel hzs g2
          have hbs : bsCells P t len (ps.toList.map fun p => (p.1, evD F' p.2)) = some (et, c') := by
            unfold bsCells
            rw [hu]
            simp only [hin]
            rw [hsi, Nat.ble_eq_true_of_le h16]
            simp only
            rw [hsi] at g1
            have hfin : Instr.fill (fun j => some (j * szT T ty, szT T ty)) ((Array.range (len * szT T ty)).map (zv.cells[· % zv.cells.size]!)) (ps.toList.map fun p => (p.1, evD F' p.2)) = some c' := g1
            cases hz : Nat.beq (len * szT T ty) 0 with
            | true =>
              have := Nat.eq_of_beq_eq_true hz
              simp only
              rw [this] at hfin ⊢
              have hr0 : Array.range 0 = #[] := rfl
              rw [hr0] at hfin ⊢
              have em : ∀ f : Nat → Value, Array.map f #[] = #[] := fun f => by simp
              rw [em] at hfin ⊢
              rw [hfin]
            | false => simp only [hzv, hfin]
          have hclen : c'.size = len * szT T ty := by
            have := g2.len T
            have h2 := r2.1
            rw [flatMap_len' (flat_len T ty), r1] at h2
            simpa using h2.symm
          refine WR.bslice c' (decBs_of hd hop hbs) fun g w' hN => ?_
          have hS : ∀ b ∈ g :: S, b ∈ S ∨ w.heap.size ≤ b := by
            intro b hb
            rcases List.mem_cons.1 hb with rfl | hb
            · exact .inr hN.fresh
            · exact .inl hb
          have hle : len ≤ 9223372036854775807 := by
            have : len ≤ len * szT T ty := Nat.le_mul_of_pos_right _ hs1
            omega
          have htk : c'.toList.take (len * szT T ty) = c'.toList := List.take_of_length_le (by rw [Array.length_toList, hclen]; exact Nat.le_refl _)
          have hown := Own.ofBlk hN.blk hN.fresh (Nat.le_refl len) hle hclen _ htk
          have hadd := h.add (r := ⟨some ⟨g, 0, none⟩, len, len, []⟩) hN.chg hN.fresh hN.blk.lt (fun a ha => at_new ha) (e := .row et ty zs)
            ⟨w.heap.size, _, by rw [setR_eq]; exact hown, by rw [setR_eq, r1], hN.chg.size, r2.chg T hN.chg (by simp) hS, fun a ha => by rw [setR_eq] at ha; simp only [Option.some.injEq] at ha; subst ha; simp⟩ (by intro j hj; cases hj)
          refine K _ _ ⟨_, _, hadd.slot (a := .own H.length) (by rw [VR, setR_eq]) ⟨by intro i hi; simp [AV.ids] at hi; subst hi; simp, trivial⟩⟩
        · cases hb
      · cases hb
    · cases hb
  · cases hb
end
end Go.X
