/- A region of a drawn order comes, in whatever order, to what the order of its text comes to. Nothing here is about one program. -/
import Derived.Test.YtjjlcenmifcaeaaXG
namespace Go.X
open Go.RowKit Go.V

section
variable {T : Tab}
def mkH (N : Nat) (f : Nat → Ent T.U) : List (Ent T.U) := (List.range N).map f
theorem mkH_len {N : Nat} {f : Nat → Ent T.U} : (mkH N f).length = N := by simp [mkH]
theorem mkH_get {N : Nat} {f : Nat → Ent T.U} {e : Nat} {x : Ent T.U} : (mkH N f)[e]? = some x ↔ e < N ∧ f e = x := by
  unfold mkH
  rw [List.getElem?_map]
  by_cases h : e < N
  · rw [List.getElem?_range h]; simp [h]
  · rw [List.getElem?_eq_none (by simpa using h)]; simp [h]
def mkF (f : Nat → Option (AV T.U)) : Nat → AF T
  | 0 => []
  | n + 1 => match f n with | some a => (n, a) :: mkF f n | none => mkF f n
theorem mkF_get {f : Nat → Option (AV T.U)} {t : Nat} {a : AV T.U} : ∀ {n : Nat}, (mkF f n).get T t = some a ↔ t < n ∧ f t = some a
  | 0 => by simp [mkF, AF.get]
  | n + 1 => by
    unfold mkF
    by_cases htn : t = n
    · subst htn
      split
      · rename_i b hb
        simp only [AF.get, Nat.beq_refl]
        constructor
        · intro h; exact ⟨by omega, by rw [hb]; exact h⟩
        · intro h; rw [hb] at h; exact h.2
      · rename_i hb
        rw [mkF_get]
        constructor
        · intro h; omega
        · intro h; rw [hb] at h; cases h.2
    · have hne : Nat.beq n t = false := by cases hb : Nat.beq n t; rfl; exact absurd (Nat.eq_of_beq_eq_true hb).symm htn
      split
      · simp only [AF.get, hne]
        rw [mkF_get]; constructor <;> intro h <;> exact ⟨by omega, h.2⟩
      · rw [mkF_get]; constructor <;> intro h <;> exact ⟨by omega, h.2⟩
def fullF (a : Act) : Nat → PF
  | 0 => []
  | n + 1 => (n, a.tmps.getD n undef) :: fullF a n
theorem fullF_get {a : Act} {t : Nat} {v : Value} : ∀ {n : Nat}, (fullF a n).get t = some v ↔ t < n ∧ a.tmps.getD t undef = v
  | 0 => by simp [fullF, PF.get]
  | n + 1 => by
    simp only [fullF, PF.get]
    by_cases htn : t = n
    · subst htn; simp [Nat.beq_refl]
    · have hne : Nat.beq n t = false := by cases hb : Nat.beq n t; rfl; exact absurd (Nat.eq_of_beq_eq_true hb).symm htn
      rw [hne]
      simp only
      rw [fullF_get]; constructor <;> intro h <;> exact ⟨by omega, h.2⟩
theorem fullF_fr {a : Act} {n : Nat} {ds : List Deferred} (h1 : a.tmps.size = n) (h2 : a.defers = ds) : Fr n ds (fullF a n) a := ⟨h1, h2, fun i v hv => by
  obtain ⟨h3, h4⟩ := fullF_get.1 hv
  exact ⟨h4, h3⟩⟩
end
section
variable {T : Tab} {P : Program} {C : Ctx T} {ops : Array Oper} {n B : Nat} {F0 : AF T} {H0 : List (Ent T.U)} {rs : List (Rec T)}
theorem TrOk.idx (h : TrOk P C ops n B F0 H0 rs) {j : Nat} {r : Rec T} (hr : rs[j]? = some r) : r.d.j = j := by
  rw [(h j r hr).idx, List.length_take, Nat.min_eq_left (Nat.le_of_lt (List.getElem?_eq_some_iff.1 hr).1)]
theorem take_mem {i j : Nat} {r : Rec T} (hij : i < j) (hr : rs[i]? = some r) : r ∈ rs.take j := List.mem_of_getElem? (i := i) (by rw [List.getElem?_take, if_pos hij]; exact hr)
theorem TrOk.ord (h : TrOk P C ops n B F0 H0 rs) {i j : Nat} {r q : Rec T} (hij : i < j) (hr : rs[i]? = some r) (hq : rs[j]? = some q) : r.d.ne ≤ q.d.nb := (h j q hq).mono r (take_mem hij hr)
theorem upR_cases {r : Rec T} {e : Nat} (h : upR r e ≠ none) : (r.skip = false ∧ r.loc = none) ∧ ((e < r.d.nb ∧ e ∈ r.d.tch ∧ e ∈ r.d.wr) ∨ (r.d.nb ≤ e ∧ e < r.H1.length)) := by
  unfold upR at h
  split at h
  · exact absurd rfl h
  · rename_i hs
    split at h
    · exact absurd rfl h
    · rename_i hl
      refine ⟨⟨hs, hl⟩, ?_⟩
      split at h
      · rename_i hlt
        split at h
        · rename_i h2; exact .inl ⟨hlt, h2.1, h2.2⟩
        · exact absurd rfl h
      · rename_i hlt
        refine .inr ⟨by omega, ?_⟩
        apply Classical.byContradiction; intro hn
        exact h (List.getElem?_eq_none (by omega))
theorem wrE_new {d : DR} {e : Nat} (h : d.wrE e = false) : e ∉ d.wr ∧ ¬ (d.nb ≤ e ∧ e < d.ne) := by
  unfold DR.wrE at h
  simp only [Bool.or_eq_false_iff, Bool.and_eq_false_imp] at h
  refine ⟨fun hm => (by rw [memN_iff.2 hm] at h; cases h.1), fun ⟨h1, h2⟩ => ?_⟩
  have := h.2 (Nat.ble_eq_true_of_le h1)
  rw [show Nat.blt e d.ne = true by rw [Nat.blt_eq]; exact h2] at this; cases this
/-- an entry that r touches, or makes, no later operation turns ahead of it. -/
theorem TrOk.later (h : TrOk P C ops n B F0 H0 rs) {D : Nat → Bool} (hcl : ∀ i k, D i = true → Tp ops i k → D k = true) {j : Nat} {r : Rec T} (hr : rs[j]? = some r) (hD : D j = false) {e : Nat} (he : e ∈ r.d.tch ∧ e < r.d.nb ∨ r.d.nb ≤ e ∧ e < r.d.ne) {i : Nat} {q : Rec T} (hq : rs[i]? = some q) (hji : j < i) (hu : acts q e) : D i = false := by
  cases hDi : D i with
  | false => rfl
  | true =>
    exfalso
    have hqk := (h i q hq)
    have hord := h.ord hji hr hq
    have hle := (h j r hr).le.2
    have hnot : ¬ Tp ops q.d.j r.d.j := fun t => by
      rw [h.idx hq, h.idx hr] at t
      have := hcl i j hDi t
      rw [hD] at this; cases this
    rcases hu with hu | ⟨c, v, hl⟩
    · obtain ⟨⟨hs, hln⟩, hc⟩ := upR_cases hu
      rcases (hqk.take hs hln).chk r (take_mem hji hr) with hchk | hchk
      · exact hnot hchk
      · rcases hc with ⟨g1, g2, g3⟩ | ⟨g1, g2⟩
        · rcases he with ⟨k1, k2⟩ | ⟨k1, k2⟩
          · exact hchk.wr e g3 k1
          · exact (wrE_new (hchk.tch e g2)).2 ⟨k1, k2⟩
        · rcases he with ⟨k1, k2⟩ | ⟨k1, k2⟩ <;> omega
    · rcases (hqk.lok _ _ _ hl).chk r (take_mem hji hr) with hchk | hchk
      · exact hnot hchk
      · rcases he with ⟨k1, k2⟩ | ⟨k1, k2⟩
        · exact hchk.l4 e c v hl k1
        · exact (wrE_new (hchk.l3 e c _ hl)).2 ⟨k1, k2⟩
theorem split_at {j : Nat} {r : Rec T} (hr : rs[j]? = some r) : rs = rs.take j ++ r :: rs.drop (j + 1) := by
  obtain ⟨hlt, hg⟩ := List.getElem?_eq_some_iff.1 hr
  rw [← hg, ← List.drop_eq_getElem_cons hlt, List.take_append_drop]
theorem drop_mem {j : Nat} {q : Rec T} (h : q ∈ rs.drop (j + 1)) : ∃ i, j < i ∧ rs[i]? = some q := by
  obtain ⟨k, hk⟩ := List.mem_iff_getElem?.1 h
  rw [List.getElem?_drop] at hk
  exact ⟨j + 1 + k, by omega, hk⟩
theorem take_mem' {j : Nat} {q : Rec T} (h : q ∈ rs.take j) : ∃ i, i < j ∧ rs[i]? = some q := by
  obtain ⟨k, hk⟩ := List.mem_iff_getElem?.1 h
  rw [List.getElem?_take] at hk
  split at hk
  · rename_i hlt; exact ⟨k, hlt, hk⟩
  · cases hk
theorem TrOk.touch (h : TrOk P C ops n B F0 H0 rs) {D : Nat → Bool} (hcl : ∀ i k, D i = true → Tp ops i k → D k = true) {j : Nat} {r : Rec T} (hr : rs[j]? = some r) (hs : r.skip = false) (hln : r.loc = none) (hD : D j = false) (hpre : ∀ k, Tp ops j k → D k = true) {e : Nat} (he : e ∈ r.d.tch) :
    hF D rs (base H0) e = hF allD (rs.take j) (base H0) e := by
  have hrk := h j r hr
  have htk := hrk.take hs hln
  have henb := (htk.live e he).1
  conv => lhs; rw [split_at hr]
  rw [hF_app]
  show hF D (rs.drop (j + 1)) (match D r.d.j with | true => _ | false => hF D (rs.take j) (base H0)) e = _
  rw [h.idx hr, hD]
  simp only
  rw [hF_none fun q hq hDq hu => ?_]
  · refine hF_congr rfl fun q hq hu => ?_
    obtain ⟨i, hi, hqi⟩ := take_mem' hq
    show D q.d.j = true
    rw [h.idx hqi]
    rcases htk.chk q hq with hc | hc
    · rw [h.idx hr, h.idx hqi] at hc
      exact hpre i hc
    · exfalso
      have hw := wrE_new (hc.tch e he)
      rcases hu with hu | ⟨c, v, hl⟩
      · obtain ⟨⟨hqs, hql⟩, hcc⟩ := upR_cases hu
        rcases hcc with ⟨_, _, g3⟩ | ⟨g1, g2⟩
        · exact hw.1 g3
        · rw [((h i q hqi).take hqs hql).ne] at g2
          exact hw.2 ⟨g1, g2⟩
      · exact hc.l1 e c v hl he
  · obtain ⟨i, hi, hqi⟩ := drop_mem hq
    have := h.later hcl hr hD (.inl ⟨he, henb⟩) hqi hi hu
    rw [h.idx hqi, this] at hDq; cases hDq
/-- what a later operation, that does not wait for one on a cell, makes of that cell's entry. -/
theorem TrOk.laterL (h : TrOk P C ops n B F0 H0 rs) {D : Nat → Bool} (hcl : ∀ i k, D i = true → Tp ops i k → D k = true) {j : Nat} {r : Rec T} (hr : rs[j]? = some r) (hD : D j = false) {k c : Nat} {sv : Option (AV T.U)} (hl : r.loc = some (k, c, sv)) {i : Nat} {q : Rec T} (hq : rs[i]? = some q) (hji : j < i) (hDi : D i = true) (hu : acts q k) : ∃ c' v', q.loc = some (k, c', some v') ∧ c ≠ c' := by
  have hqk := h i q hq
  have hrl := (h j r hr).lok _ _ _ hl
  have hord := h.ord hji hr hq
  have hnot : ¬ Tp ops q.d.j r.d.j := fun t => by
    rw [h.idx hq, h.idx hr] at t
    have := hcl i j hDi t
    rw [hD] at this; cases this
  rcases hu with hu | ⟨c', v', hl'⟩
  · exfalso
    obtain ⟨⟨hs, hln⟩, hc⟩ := upR_cases hu
    rcases (hqk.take hs hln).chk r (take_mem hji hr) with hchk | hchk
    · exact hnot hchk
    · rcases hc with ⟨g1, g2, g3⟩ | ⟨g1, g2⟩
      · exact hchk.l2 k c sv hl g3
      · have := hrl.lt; have := hrl.ne; omega
  · rcases (hqk.lok _ _ _ hl').chk r (take_mem hji hr) with hchk | hchk
    · exact absurd hchk hnot
    · exact ⟨c', v', hl', hchk.l5 k c' _ c sv hl' hl (.inl rfl)⟩
/-- the cell that an operation is on. -/
theorem TrOk.touchL (h : TrOk P C ops n B F0 H0 rs) {D : Nat → Bool} (hcl : ∀ i k, D i = true → Tp ops i k → D k = true) {j : Nat} {r : Rec T} (hr : rs[j]? = some r) {k c : Nat} {sv : Option (AV T.U)} (hl : r.loc = some (k, c, sv)) (hD : D j = false) (hpre : ∀ k, Tp ops j k → D k = true) :
    simE c (hF D rs (base H0) k) (hF allD (rs.take j) (base H0) k) := by
  have hrl := (h j r hr).lok _ _ _ hl
  have e1 : hF D rs (base H0) k = hF D (rs.drop (j + 1)) (hF D (rs.take j) (base H0)) k := by
    conv => lhs; rw [split_at hr]
    rw [hF_app]
    show hF D (rs.drop (j + 1)) (match D r.d.j with | true => _ | false => _) k = _
    rw [h.idx hr, hD]
  have e2 : hF allD (rs.take j) (base H0) k = hF (fun _ => false) (rs.drop (j + 1)) (hF allD (rs.take j) (base H0)) k := (hF_none fun _ _ hq => by cases hq).symm
  rw [e1, e2]
  refine hF_sim (hF_sim (.inl rfl) fun q hq hu => ?_) fun q hq hu => ?_
  · obtain ⟨i, hi, hqi⟩ := take_mem' hq
    rcases hrl.chk q hq with hc | hc
    · rw [h.idx hr, h.idx hqi] at hc
      left; rw [h.idx hqi, hpre i hc]; rfl
    · rcases hu with hu | ⟨c', v', hl'⟩
      · exfalso
        have hw := wrE_new (hc.l3 k c sv hl)
        obtain ⟨⟨hqs, hql⟩, hcc⟩ := upR_cases hu
        rcases hcc with ⟨_, _, g3⟩ | ⟨g1, g2⟩
        · exact hw.1 g3
        · rw [((h i q hqi).take hqs hql).ne] at g2
          exact hw.2 ⟨g1, g2⟩
      · exact .inr ⟨c', v', hl', hc.l5 k c sv c' _ hl hl' (.inr rfl)⟩
  · obtain ⟨i, hi, hqi⟩ := drop_mem hq
    cases hDi : D q.d.j with
    | false => exact .inl rfl
    | true =>
      rw [h.idx hqi] at hDi
      obtain ⟨c', v', h1, h2⟩ := h.laterL hcl hr hD hl hqi hi hDi hu
      exact .inr ⟨c', v', h1, Ne.symm h2⟩
def withD (D : Nat → Bool) (j : Nat) : Nat → Bool := fun i => if i = j then true else D i
theorem TrOk.put (h : TrOk P C ops n B F0 H0 rs) {D : Nat → Bool} (hcl : ∀ i k, D i = true → Tp ops i k → D k = true) {j : Nat} {r : Rec T} (hr : rs[j]? = some r) (hD : D j = false) (e : Nat) :
    hF (withD D j) rs (base H0) e = upG r e (hF D rs (base H0) e) := by
  have hne : ∀ (i : Nat) (q : Rec T), rs[i]? = some q → i ≠ j → withD D j q.d.j = D q.d.j := fun i q hq hi => by
    unfold withD; rw [h.idx hq, if_neg hi]
  have hj : withD D j r.d.j = true := by unfold withD; rw [h.idx hr, if_pos rfl]
  have e1 : hF (withD D j) (rs.take j) (base H0) e = hF D (rs.take j) (base H0) e := hF_congr rfl fun q hq _ => by
    obtain ⟨i, hi, hqi⟩ := take_mem' hq
    exact hne i q hqi (by omega)
  have lhs : hF (withD D j) rs (base H0) e = hF (withD D j) (rs.drop (j + 1)) (fun e => upG r e (hF (withD D j) (rs.take j) (base H0) e)) e := by
    conv => lhs; rw [split_at hr]
    rw [hF_app]
    show hF (withD D j) (rs.drop (j + 1)) (match withD D j r.d.j with | true => _ | false => _) e = _
    rw [hj]
  have rhs : hF D rs (base H0) e = hF D (rs.drop (j + 1)) (hF D (rs.take j) (base H0)) e := by
    conv => lhs; rw [split_at hr]
    rw [hF_app]
    show hF D (rs.drop (j + 1)) (match D r.d.j with | true => _ | false => _) e = _
    rw [h.idx hr, hD]
  have hdr : ∀ q ∈ rs.drop (j + 1), withD D j q.d.j = D q.d.j := fun q hq => by
    obtain ⟨i, hi, hqi⟩ := drop_mem hq
    exact hne i q hqi (by omega)
  have lhs2 : hF (withD D j) rs (base H0) e = hF D (rs.drop (j + 1)) (fun e => upG r e (hF (withD D j) (rs.take j) (base H0) e)) e := by
    rw [lhs]; exact hF_congr rfl fun q hq _ => hdr q hq
  rw [lhs2, rhs]
  by_cases hu : acts r e
  · rcases hu with hu | ⟨c, v, hl⟩
    · obtain ⟨⟨hs, hln⟩, hc⟩ := upR_cases hu
      have no : ∀ q ∈ rs.drop (j + 1), D q.d.j = true → ¬ acts q e := fun q hq hDq hq2 => by
        obtain ⟨i, hi, hqi⟩ := drop_mem hq
        have hh : e ∈ r.d.tch ∧ e < r.d.nb ∨ r.d.nb ≤ e ∧ e < r.d.ne := by
          rcases hc with ⟨g1, g2, _⟩ | ⟨g1, g2⟩
          · exact .inl ⟨g2, g1⟩
          · exact .inr ⟨g1, by rw [← ((h j r hr).take hs hln).ne]; exact g2⟩
        have := h.later hcl hr hD hh hqi hi hq2
        rw [h.idx hqi, this] at hDq; cases hDq
      rw [hF_none no, hF_none no, e1]
    · have up : ∀ x, upG r e x = setE c v x := fun x => by unfold upG; rw [hl]; simp only [if_true]
      rw [up]
      refine hF_comm (by rw [up, e1]) fun q hq hDq hq2 => ?_
      obtain ⟨i, hi, hqi⟩ := drop_mem hq
      rw [h.idx hqi] at hDq
      exact h.laterL hcl hr hD hl hqi hi hDq hq2
  · rw [upG_id hu]
    exact hF_congr (by rw [upG_id hu]; exact e1) fun q hq _ => rfl
def isRow {U : Nat → Type} : Ent U → Bool | .row _ _ _ => true | _ => false
theorem setE_isRow {c : Nat} {v : AV T.U} {x : Ent T.U} : isRow (setE c v x) = isRow x := by
  cases x with
  | drow e d fe xs op => cases op with
    | none => rfl
    | some p => obtain ⟨a, cs⟩ := p; rfl
  | _ => rfl
/-- rows were rows. -/
theorem TrOk.rowFrom (h : TrOk P C ops n B F0 H0 rs) {y : Nat} (hy : y < B) : ∀ (m : Nat) (D : Nat → Bool), isRow (hF D (rs.take m) (base H0) y) = true → isRow (base H0 y) = true
  | 0, D, hr => hr
  | m + 1, D, hr => by
    by_cases hm : m < rs.length
    · rw [List.take_succ_eq_append_getElem hm, hF_app] at hr
      have hg : rs[m]? = some rs[m] := List.getElem?_eq_getElem hm
      generalize rs[m] = r at hg hr
      have hr : isRow ((match D r.d.j with | true => fun e => upG r e (hF D (rs.take m) (base H0) e) | false => hF D (rs.take m) (base H0)) y) = true := hr
      cases hD : D r.d.j with
      | false => rw [hD] at hr; exact h.rowFrom hy m D hr
      | true =>
        rw [hD] at hr
        have hr : isRow (upG r y (hF D (rs.take m) (base H0) y)) = true := hr
        unfold upG at hr
        split at hr
        · split at hr
          · rw [setE_isRow] at hr; exact h.rowFrom hy m D hr
          · exact h.rowFrom hy m D hr
        · cases hu : upR r y with
          | none => rw [hu] at hr; exact h.rowFrom hy m D hr
          | some x =>
            rw [hu] at hr
            have hrk := h m r hg
            obtain ⟨⟨hs, hln⟩, hc⟩ := upR_cases (by rw [hu]; simp : upR r y ≠ none)
            have htk := hrk.take hs hln
            have hle := hrk.le.1
            rcases hc with ⟨g1, g2, g3⟩ | ⟨g1, _⟩
            · have hx : r.H1[y]? = some x := by
                unfold upR at hu
                rw [hs, hln] at hu
                simp only at hu
                rwa [if_pos g1, if_pos ⟨g2, g3⟩] at hu
              have hr : isRow x = true := hr
              cases x with
              | row e t xs =>
                obtain ⟨ys, h1⟩ := htk.keeps.row y e t xs (by rw [htk.hlen]; exact g1) hx
                rw [htk.hm y g1, if_pos g2] at h1
                refine h.rowFrom hy m allD ?_
                rw [Option.some.inj h1]; rfl
              | _ => cases hr
            · omega
    · rw [List.take_of_length_le (by omega)] at hr
      refine h.rowFrom hy m D ?_
      rw [List.take_of_length_le (by omega)]; exact hr
theorem TrOk.free (h : TrOk P C ops n B F0 H0 rs) (hB : H0.length = B) {D : Nat → Bool} (hcl : ∀ i k, D i = true → Tp ops i k → D k = true) {j : Nat} {r : Rec T} (hr : rs[j]? = some r) (hD : D j = false) {e : Nat} (h1 : r.d.nb ≤ e) (h2 : e < r.d.ne) : hF D rs (base H0) e = .gone := by
  have hle := (h j r hr).le
  rw [hF_none fun q hq hDq hu => ?_]
  · unfold base; rw [List.getElem?_eq_none (by omega)]; rfl
  · obtain ⟨i, hqi⟩ := List.mem_iff_getElem?.1 hq
    rw [h.idx hqi] at hDq
    rcases Nat.lt_trichotomy i j with hij | rfl | hij
    · have ho := h.ord hij hqi hr
      have := (h i q hqi).le.2
      rcases hu with hu | ⟨c, v, hl⟩
      · obtain ⟨⟨hs, hln⟩, hc⟩ := upR_cases hu
        rcases hc with ⟨g1, _⟩ | ⟨_, g2⟩
        · omega
        · rw [((h i q hqi).take hs hln).ne] at g2; omega
      · have := ((h i q hqi).lok _ _ _ hl).lt; omega
    · rw [hD] at hDq; cases hDq
    · have := h.later hcl hr hD (.inr ⟨h1, h2⟩) hqi hij hu
      rw [this] at hDq; cases hDq
/-- what those operations name that are done. -/
theorem TrOk.okId (h : TrOk P C ops n B F0 H0 rs) {D : Nat → Bool} (hcl : ∀ i k, D i = true → Tp ops i k → D k = true) {j : Nat} {r : Rec T} (hr : rs[j]? = some r) (hD : D j = false) {i : Nat} {q : Rec T} (hq : rs[i]? = some q) (hDi : D i = true) {x : Nat} (hx : OkId B (rs.take i) ops q x) : x < r.d.nb ∨ r.d.ne ≤ x := by
  have hle := (h j r hr).le
  have key : ∀ (i : Nat) (q : Rec T), rs[i]? = some q → D i = true → q.d.nb ≤ x → x < q.d.ne → x < r.d.nb ∨ r.d.ne ≤ x := by
    intro i q hq hDi h1 h2
    rcases Nat.lt_trichotomy i j with hij | rfl | hij
    · have := h.ord hij hq hr; exact .inl (by omega)
    · rw [hD] at hDi; cases hDi
    · have := h.ord hij hr hq; exact .inr (by omega)
  rcases hx with hx | ⟨h1, h2⟩ | ⟨q', hq', h1, h2, t⟩
  · exact .inl (by omega)
  · exact key i q hq hDi h1 h2
  · obtain ⟨k, hk, hqk⟩ := take_mem' hq'
    rw [h.idx hq, h.idx hqk] at t
    exact key k q' hqk (hcl i k hDi t) h1 h2
theorem TrOk.fid (hk : OkD ops n) (h : TrOk P C ops n B F0 H0 rs) (hF0 : ∀ t a, F0.get T t = some a → ∀ i ∈ a.ids, i < B) {D : Nat → Bool} (hcl : ∀ i k, D i = true → Tp ops i k → D k = true) {j : Nat} {r : Rec T} (hr : rs[j]? = some r) (hD : D j = false) {t : Nat} {a : AV T.U} (ha : fF D rs (F0.get T) t = some a) : ∀ x ∈ a.ids, x < r.d.nb ∨ r.d.ne ≤ x := by
  intro x hx
  by_cases hw : ∃ q ∈ rs, q.o.dst = some t
  · obtain ⟨q, hq, hd⟩ := hw
    rw [fF_at hq hd fun q' hq' hd' => h.uniq hk hq' hq hd' hd] at ha
    obtain ⟨i, hqi⟩ := List.mem_iff_getElem?.1 hq
    rw [h.idx hqi] at ha
    cases hDi : D i with
    | false =>
      rw [hDi] at ha
      have := hF0 t a ha x hx
      have hle := (h j r hr).le
      exact .inl (by omega)
    | true =>
      rw [hDi] at ha
      simp only [Option.some.injEq] at ha; subst ha
      cases hs : q.skip with
      | true => rw [((h i q hqi).skip hs).1] at hx; cases hx
      | false =>
        cases hl : q.loc with
        | none => exact h.okId hcl hr hD hqi hDi (((h i q hqi).take hs hl).ids x hx)
        | some p => obtain ⟨k, c, sv⟩ := p; exact h.okId hcl hr hD hqi hDi (((h i q hqi).lok _ _ _ hl).ids x hx)
  · rw [fF_none fun q hq hd => hw ⟨q, hq, hd⟩] at ha
    have := hF0 t a ha x hx
    have hle := (h j r hr).le
    exact .inl (by omega)
theorem hF_ids {D : Nat → Bool} {e x : Nat} : ∀ {rs : List (Rec T)} {f : Nat → Ent T.U}, x ∈ (hF D rs f e).cellIds → x ∈ (f e).cellIds ∨ ∃ r ∈ rs, D r.d.j = true ∧ ((∃ y, upR r e = some y ∧ x ∈ y.cellIds) ∨ ∃ c v, r.loc = some (e, c, some v) ∧ x ∈ v.ids)
  | [], f, h => .inl h
  | r :: rs, f, h => by
    rcases hF_ids (rs := rs) (f := match D r.d.j with | true => fun e => upG r e (f e) | false => f) h with h1 | ⟨q, h1, h2, h3⟩
    · cases hD : D r.d.j with
      | false => rw [hD] at h1; exact .inl h1
      | true =>
        rw [hD] at h1
        have h1 : x ∈ (upG r e (f e)).cellIds := h1
        unfold upG at h1
        split at h1
        · rename_i k c v hl
          split at h1
          · rename_i he; subst he
            rcases setE_ids h1 with h1 | h1
            · exact .inl h1
            · exact .inr ⟨r, List.mem_cons_self .., hD, .inr ⟨c, v, hl, h1⟩⟩
          · exact .inl h1
        · cases hu : upR r e with
          | none => rw [hu] at h1; exact .inl h1
          | some y => rw [hu] at h1; exact .inr ⟨r, List.mem_cons_self .., hD, .inl ⟨y, hu, h1⟩⟩
    · exact .inr ⟨q, List.mem_cons_of_mem _ h1, h2, h3⟩
theorem upR_mem {r : Rec T} {e : Nat} {x : Ent T.U} (h : upR r e = some x) : (r.skip = false ∧ r.loc = none) ∧ x ∈ r.H1 := by
  obtain ⟨hs, _⟩ := upR_cases (by rw [h]; simp : upR r e ≠ none)
  refine ⟨hs, ?_⟩
  unfold upR at h
  rw [hs.1, hs.2] at h
  simp only at h
  split at h
  · split at h
    · exact List.mem_of_getElem? h
    · cases h
  · exact List.mem_of_getElem? h
theorem TrOk.hid (h : TrOk P C ops n B F0 H0 rs) (hH0 : ∀ f ∈ H0, ∀ i ∈ f.cellIds, i < B) {D : Nat → Bool} (hcl : ∀ i k, D i = true → Tp ops i k → D k = true) {j : Nat} {r : Rec T} (hr : rs[j]? = some r) (hD : D j = false) {e : Nat} : ∀ x ∈ (hF D rs (base H0) e).cellIds, x < r.d.nb ∨ r.d.ne ≤ x := by
  intro x hx
  rcases hF_ids hx with hx | ⟨q, hq, hDq, h1⟩
  · unfold base at hx
    have hle := (h j r hr).le
    cases hg : H0[e]? with
    | none => rw [hg] at hx; cases hx
    | some f =>
      rw [hg] at hx
      have := hH0 f (List.mem_of_getElem? hg) x hx
      exact .inl (by omega)
  · obtain ⟨i, hqi⟩ := List.mem_iff_getElem?.1 hq
    rw [h.idx hqi] at hDq
    rcases h1 with ⟨y, h1, hx⟩ | ⟨c, v, hl, hx⟩
    · obtain ⟨hs, hm⟩ := upR_mem h1
      exact h.okId hcl hr hD hqi hDq (((h i q hqi).take hs.1 hs.2).cids _ hm x hx)
    · exact h.okId hcl hr hD hqi hDq (((h i q hqi).lok _ _ _ hl).vids v rfl x hx)
end
end Go.X
